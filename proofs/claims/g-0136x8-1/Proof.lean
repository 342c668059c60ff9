import JvmDerived
import JvmDerived.Pilot.@@N@@Statement
import JvmDerived.Pilot.@@N@@Code
set_option linter.unusedVariables false
set_option linter.unusedSimpArgs false
namespace Jvm.RoadKit
open Sem ClassFile Op Lib Jvm.Stand Jvm.Free Jvm.LawKit
section New
variable {p : Program} {l : Launch} {e : Env} {R : Room} {s : State} {m : MethodId} {args : Array Value} {below : List Frame} {meth : Method} {c : Code} {T : State} {locs : List Loc} {cells slots : Nat}
theorem retI (X : Stand p l e R s m args below meth c T locs cells slots) (hx : p.tables.exec = Jvm.exec) {pc : Nat} {Ls : Array Slot} {z : Int32} {rest : List Value} (hret : meth.sig.returnType = some .int) (hd : decode c.code pc = .ok (.ireturn, 1)) {fs : List Frame}
    (hl : ∀ (f : JFrame) (acts : List Action), f.method = m → f.locked = none → f.entered = [] → (doReturn e (T.setTop f) acts (some (.int z))).1 = T.setFrames fs) : Steps p.tables e below (T.setTop (mkF m pc Ls (.int z :: rest))) (T.setFrames fs) := by
  have hm' : T.vm.method? m = some meth := X.method'
  have hn : narrow .int (.int z) = .int z := rfl
  show Steps p.tables e below (T.setTop { method := m, pc := pc, locals := Ls, stack := _ :: rest, locked := none }) _
  jvm_step X.here [X.here.top, hx, hd, hm', hret, hn]
  first | (intro acts; rw [hl _ acts rfl rfl rfl]) | rw [hl _ _ rfl rfl rfl]
  exact Steps.refl _
end New
end Jvm.RoadKit
namespace Jvm.Pilot.@@N@@
open Jvm Jvm.ClassFile Sem Op Lib Jvm.Free Jvm.Stand Jvm.LawKit Jvm.RoadKit Bundle Jvm.Pilot.@@N@@.Jvm.D
/- records: scalars, int-like arrays, long arrays -/
abbrev Rec : Type := (Nat → Int32) × (Nat → Int32 → Int32) × (Nat → Int32 → Int64)
def zrec : Rec := (fun _ => 0, fun _ _ => 0, fun _ _ => 0)
def gI (ob : Rec) (k : Nat) : Int32 := ob.1 k
def gA (ob : Rec) (k : Nat) (i : Int32) : Int32 := ob.2.1 k i
def gJ (ob : Rec) (k : Nat) (i : Int32) : Int64 := ob.2.2 k i
def sI (ob : Rec) (k : Nat) (v : Int32) : Rec := (fun j => if j = k then v else ob.1 j, ob.2)
def sA (ob : Rec) (k : Nat) (i v : Int32) : Rec := (ob.1, fun j x => if j = k ∧ x = i then v else ob.2.1 j x, ob.2.2)
def sJ (ob : Rec) (k : Nat) (i : Int32) (v : Int64) : Rec := (ob.1, ob.2.1, fun j x => if j = k ∧ x = i then v else ob.2.2 j x)
def chk {γ : Type} (n i : Int32) (A : Option γ) : Option γ := if i < 0 then none else if i < n then A else none
def dvz {γ : Type} (y : Int32) (A : Option γ) : Option γ := if y = 0 then none else A
def bind2 {α β γ : Type} (o : Option (α × β)) (f : α → β → Option γ) : Option γ := o.bind fun q => f q.1 q.2
def bind3 {α β γ δ : Type} (o : Option (α × β × δ)) (f : α → β → δ → Option γ) : Option γ := o.bind fun q => f q.1 q.2.1 q.2.2
theorem ite_el {c : Prop} [Decidable c] {γ : Type} {A B : Option γ} {r : γ} {Q : Prop} (h : (if c then A else B) = some r) (t : c → A = some r → Q) (e : ¬ c → B = some r → Q) : Q := by
  by_cases hc : c
  · rw [if_pos hc] at h; exact t hc h
  · rw [if_neg hc] at h; exact e hc h
theorem bind_el {α γ : Type} {o : Option α} {f : α → Option γ} {r : γ} {Q : Prop} (h : o.bind f = some r) (k : ∀ x, o = some x → f x = some r → Q) : Q := by
  cases o with
  | none => cases h
  | some x => exact k x rfl h
theorem bind2_el {α β γ : Type} {o : Option (α × β)} {f : α → β → Option γ} {r : γ} {Q : Prop} (h : bind2 o f = some r) (k : ∀ x y, o = some (x, y) → f x y = some r → Q) : Q := by
  rcases o with _ | ⟨x, y⟩
  · cases h
  · exact k x y rfl h
theorem bind3_el {α β γ δ : Type} {o : Option (α × β × δ)} {f : α → β → δ → Option γ} {r : γ} {Q : Prop} (h : bind3 o f = some r) (k : ∀ x y z, o = some (x, y, z) → f x y z = some r → Q) : Q := by
  rcases o with _ | ⟨x, y, z⟩
  · cases h
  · exact k x y z rfl h
theorem chk_el {γ : Type} {n i : Int32} {A : Option γ} {r : γ} {Q : Prop} (h : chk n i A = some r) (k : (¬ i < 0 ∧ i < n) → A = some r → Q) : Q := by
  unfold chk at h
  by_cases h0 : i < 0
  · rw [if_pos h0] at h; cases h
  · rw [if_neg h0] at h
    by_cases h1 : i < n
    · rw [if_pos h1] at h; exact k ⟨h0, h1⟩ h
    · rw [if_neg h1] at h; cases h
theorem dvz_el {γ : Type} {y : Int32} {A : Option γ} {r : γ} {Q : Prop} (h : dvz y A = some r) (k : y ≠ 0 → A = some r → Q) : Q := by
  unfold dvz at h
  by_cases h0 : y = 0
  · rw [if_pos h0] at h; cases h
  · rw [if_neg h0] at h; exact k h0 h
def All {α : Type} (p : α → Prop) : List α → Prop
  | [] => True
  | x :: l => p x ∧ All p l
theorem All.mem {α : Type} {p : α → Prop} : ∀ {l : List α}, All p l → ∀ {x : α}, x ∈ l → p x
  | [], _, _, h => nomatch h
  | _ :: _, H, _, h => (List.mem_cons.mp h).elim (fun e => e ▸ H.1) (fun e => All.mem H.2 e)
def el (ty : FieldType) (ob : Rec) (k : Nat) (j : Int32) : Value := match ty with
  | .long => .long (ob.2.2 k j)
  | _ => .int (ob.2.1 k j)
def aD (ty : FieldType) : String := match ty with
  | .int => "[I"
  | .boolean => "[Z"
  | _ => "[J"
abbrev Cls : Type := String × List (String × String) × List (String × FieldType × Int32)
abbrev mem1 (k : Nat) {d : Jvm.Cond} (h : tables_1[k]? = some d) : d ∈ tables_1 := List.mem_of_getElem? h
abbrev sOk (C : String) (nd : String × String) : Prop := (Jvm.Cond.lays C C nd.1 nd.2 ∈ tables_1 ∨ Jvm.Cond.laysFinal C C nd.1 nd.2 ∈ tables_1) ∧ (nd.2 = "I" ∨ nd.2 = "Z")
abbrev aOk (C : String) (t : String × FieldType × Int32) : Prop := (Jvm.Cond.lays C C t.1 (aD t.2.1) ∈ tables_1 ∨ Jvm.Cond.laysFinal C C t.1 (aD t.2.1) ∈ tables_1) ∧ (t.2.1 = .int ∨ t.2.1 = .boolean ∨ t.2.1 = .long) ∧ ¬ t.2.2 < 0
def K : Cls := ("LogicalReplicator", [("nKeys", "I"), ("nSlots", "I"), ("logCap", "I"), ("memCap", "I"), ("length", "I"), ("emittedPos", "I"), ("appliedPos", "I"), ("confirmedPos", "I"), ("qHead", "I"), ("qCount", "I")], [("recKind", .int, 129), ("recSlot", .int, 129), ("recKey", .int, 129), ("recVal", .int, 129), ("recBegin", .int, 129), ("slotOpen", .boolean, 8), ("slotBegin", .int, 8), ("pubHas", .boolean, 32), ("pubVal", .int, 32), ("subHas", .boolean, 32), ("subVal", .int, 32), ("pendKind", .int, 32), ("pendVal", .int, 32), ("qKind", .int, 128), ("qKey", .int, 128), ("qVal", .int, 128), ("qPos", .int, 128)])
theorem kS : All (sOk K.1) K.2.1 := ⟨⟨Or.inl (mem1 50 rfl), Or.inl rfl⟩, ⟨Or.inl (mem1 52 rfl), Or.inl rfl⟩, ⟨Or.inl (mem1 54 rfl), Or.inl rfl⟩, ⟨Or.inl (mem1 56 rfl), Or.inl rfl⟩, ⟨Or.inl (mem1 58 rfl), Or.inl rfl⟩, ⟨Or.inl (mem1 60 rfl), Or.inl rfl⟩, ⟨Or.inl (mem1 62 rfl), Or.inl rfl⟩, ⟨Or.inl (mem1 64 rfl), Or.inl rfl⟩, ⟨Or.inl (mem1 66 rfl), Or.inl rfl⟩, ⟨Or.inl (mem1 68 rfl), Or.inl rfl⟩, trivial⟩
theorem kA : All (aOk K.1) K.2.2 := ⟨⟨Or.inl (mem1 11 rfl), Or.inl rfl, by decide⟩, ⟨Or.inl (mem1 13 rfl), Or.inl rfl, by decide⟩, ⟨Or.inl (mem1 15 rfl), Or.inl rfl, by decide⟩, ⟨Or.inl (mem1 17 rfl), Or.inl rfl, by decide⟩, ⟨Or.inl (mem1 19 rfl), Or.inl rfl, by decide⟩, ⟨Or.inl (mem1 22 rfl), Or.inr (Or.inl rfl), by decide⟩, ⟨Or.inl (mem1 24 rfl), Or.inl rfl, by decide⟩, ⟨Or.inl (mem1 26 rfl), Or.inr (Or.inl rfl), by decide⟩, ⟨Or.inl (mem1 28 rfl), Or.inl rfl, by decide⟩, ⟨Or.inl (mem1 30 rfl), Or.inr (Or.inl rfl), by decide⟩, ⟨Or.inl (mem1 32 rfl), Or.inl rfl, by decide⟩, ⟨Or.inl (mem1 34 rfl), Or.inl rfl, by decide⟩, ⟨Or.inl (mem1 36 rfl), Or.inl rfl, by decide⟩, ⟨Or.inl (mem1 38 rfl), Or.inl rfl, by decide⟩, ⟨Or.inl (mem1 40 rfl), Or.inl rfl, by decide⟩, ⟨Or.inl (mem1 42 rfl), Or.inl rfl, by decide⟩, ⟨Or.inl (mem1 44 rfl), Or.inl rfl, by decide⟩, trivial⟩
abbrev kN : Nat := 27
theorem kI : Jvm.Cond.instantiable K.1 kN ∈ tables_1 := mem1 1 rfl
theorem kZ : Jvm.Cond.initialized K.1 ∈ tables_1 := mem1 2 rfl
theorem kNm : (K.2.1.map (·.1) ++ K.2.2.map (·.1)).Nodup := by decide +kernel
theorem nm_ss {k k' : Nat} {nd nd' : String × String} (h : K.2.1[k]? = some nd) (h' : K.2.1[k']? = some nd') (ne : k ≠ k') : nd.1 ≠ nd'.1 := fun e => by
  have l := (List.getElem?_eq_some_iff.mp h).1
  have l' := (List.getElem?_eq_some_iff.mp h').1
  refine ne ((List.getElem?_inj (l := K.2.1.map (·.1) ++ K.2.2.map (·.1)) (i := k) (j := k') (by simp; omega) kNm).mp ?_)
  rw [List.getElem?_append_left (by simpa using l), List.getElem?_append_left (by simpa using l'), List.getElem?_map, List.getElem?_map, h, h']
  simp [e]
theorem nm_aa {k k' : Nat} {t t' : String × FieldType × Int32} (h : K.2.2[k]? = some t) (h' : K.2.2[k']? = some t') (ne : k ≠ k') : t.1 ≠ t'.1 := fun e => by
  have l := (List.getElem?_eq_some_iff.mp h).1
  have l' := (List.getElem?_eq_some_iff.mp h').1
  have q := (List.getElem?_inj (l := K.2.1.map (·.1) ++ K.2.2.map (·.1)) (i := K.2.1.length + k) (j := K.2.1.length + k') (by simp; omega) kNm).mp (by
    rw [List.getElem?_append_right (by simp), List.getElem?_append_right (by simp)]
    simp [h, h', e])
  omega
theorem nm_sa {k k' : Nat} {nd : String × String} {t : String × FieldType × Int32} (h : K.2.1[k]? = some nd) (h' : K.2.2[k']? = some t) : nd.1 ≠ t.1 := fun e => by
  have l := (List.getElem?_eq_some_iff.mp h).1
  have l' := (List.getElem?_eq_some_iff.mp h').1
  have q := (List.getElem?_inj (l := K.2.1.map (·.1) ++ K.2.2.map (·.1)) (i := k) (j := K.2.1.length + k') (by simp; omega) kNm).mp (by
    rw [List.getElem?_append_left (by simpa using l), List.getElem?_append_right (by simp)]
    simp [h, h', e])
  omega
abbrev Ctx : Type := Launch × State × Nat × Array Value
def Ok (C : Ctx) : Prop := ∀ d ∈ tables_1, d.before C.2.2.2 C.2.1 = true
def ArrAt (Z : State) (h : Heap) (b : Nat) (ty : FieldType) (len : Int32) (v : Int32 → Value) : Prop := ∃ cl : Cell, Arr Z h b cl ty ∧ cl.slots.size = len.toNatClampNeg ∧ ∀ j : Int32, ¬ j < 0 → j < len → cl.slots[j.toNatClampNeg]? = some (v j)
def ObjAt (Z : State) (h : Heap) (a : Nat) (q : Nat) (ob : Rec) : Prop :=
  Exa Z h a K.1 ∧ (∀ k nd, K.2.1[k]? = some nd → Fld Z h a K.1 nd.1 nd.2 (.int (ob.1 k))) ∧
  (∀ k t, K.2.2[k]? = some t → k < q → Fld Z h a K.1 t.1 (aD t.2.1) (.ref (a + 1 + k)) ∧ ArrAt Z h (a + 1 + k) t.2.1 t.2.2 (el t.2.1 ob k)) ∧
  (∀ k t, K.2.2[k]? = some t → q ≤ k → Fld Z h a K.1 t.1 (aD t.2.1) .null)
abbrev AH : Type := Nat × List (Nat × Nat × Rec)
def Rep (Z : State) (n0 : Nat) (h : Heap) (G : AH) : Prop :=
  h.size = G.1 ∧ Old Z n0 h ∧ (∀ x ∈ G.2, n0 ≤ x.1 ∧ x.1 + x.2.1 < G.1 ∧ ObjAt Z h x.1 x.2.1 x.2.2) ∧ G.2.Pairwise (fun x y => x.1 + x.2.1 < y.1 ∨ y.1 + y.2.1 < x.1)
section Facts
variable {Z : State} {h h' : Heap} {a b : Nat} {q k n0 top : Nat} {ob ob' : Rec} {nd : String × String} {t : String × FieldType × Int32} {a0 : Array Value} {sl : Nat} {v : Value} {H : List (Nat × Nat × Rec)} {G : AH}
theorem fld_fr {C n d : String} (e : h'[a]? = h[a]?) (F : Fld Z h a C n d v) : Fld Z h' a C n d v := by
  obtain ⟨cell, cf, k, i, f, h1, r⟩ := F; exact ⟨cell, cf, k, i, f, e.trans h1, r⟩
theorem exa_fr {C : String} (e : h'[a]? = h[a]?) (F : Exa Z h a C) : Exa Z h' a C := by
  obtain ⟨cell, k, h1, r⟩ := F; exact ⟨cell, k, e.trans h1, r⟩
theorem arrAt_fr {ty : FieldType} {len : Int32} {w : Int32 → Value} (e : h'[a]? = h[a]?) (F : ArrAt Z h a ty len w) : ArrAt Z h' a ty len w := by
  obtain ⟨cl, A, r⟩ := F; exact ⟨cl, ⟨e.trans A.1, A.2⟩, r⟩
theorem ObjAt.frame (e : ∀ b, a ≤ b → b ≤ a + q → h'[b]? = h[b]?) (F : ObjAt Z h a q ob) : ObjAt Z h' a q ob := by
  have e0 := e a (Nat.le_refl _) (Nat.le_add_right _ _)
  refine ⟨exa_fr e0 F.1, fun k nd hk => fld_fr e0 (F.2.1 k nd hk), fun k t hk hq => ⟨fld_fr e0 (F.2.2.1 k t hk hq).1, arrAt_fr (e _ (by omega) (by omega)) (F.2.2.1 k t hk hq).2⟩, fun k t hk hq => fld_fr e0 (F.2.2.2 k t hk hq)⟩
theorem ObjAt.ext (E : Ext h h') (F : ObjAt Z h a q ob) : ObjAt Z h' a q ob := by
  refine ⟨F.1.ext E, fun k nd hk => (F.2.1 k nd hk).ext E, fun k t hk hq => ⟨(F.2.2.1 k t hk hq).1.ext E, ?_⟩, fun k t hk hq => (F.2.2.2 k t hk hq).ext E⟩
  obtain ⟨cl, A, r⟩ := (F.2.2.1 k t hk hq).2; exact ⟨cl, A.ext E, r⟩
theorem wr_ne (W : Wr h h' a sl v) (ne : b ≠ a) : h'[b]? = h[b]? := by
  obtain ⟨cell, -, -, -, rfl⟩ := W; exact Array.getElem?_setIfInBounds_ne (Ne.symm ne)
theorem laidS (hw : ∀ d ∈ tables_1, d.before a0 Z = true) (hk : K.2.1[k]? = some nd) : Laid Z a0 K.1 K.1 nd.1 nd.2 := ((All.mem kS (List.mem_of_getElem? hk)).1).imp (hw _) (hw _)
theorem laidA (hw : ∀ d ∈ tables_1, d.before a0 Z = true) (hk : K.2.2[k]? = some t) : Laid Z a0 K.1 K.1 t.1 (aD t.2.1) := ((All.mem kA (List.mem_of_getElem? hk)).1).imp (hw _) (hw _)
theorem pfS (hk : K.2.1[k]? = some nd) : ∃ ty, parseFieldDescriptor nd.2 = some ty := by
  rcases (All.mem kS (List.mem_of_getElem? hk)).2 with e | e <;> rw [e]
  · exact ⟨.int, by decide⟩
  · exact ⟨.boolean, by decide⟩
theorem pfA (hk : K.2.2[k]? = some t) : parseFieldDescriptor (aD t.2.1) = some (.array t.2.1) := by
  rcases (All.mem kA (List.mem_of_getElem? hk)).2.1 with e | e | e <;> rw [e] <;> decide
theorem ObjAt.putI {x : Int32} (hw : ∀ d ∈ tables_1, d.before a0 Z = true) (F : ObjAt Z h a q ob) (hk : K.2.1[k]? = some nd) (W : Wr h h' a (Jvm.RoadKit.slotOf Z K.1 nd.1 nd.2) (.int x)) : ObjAt Z h' a q (sI ob k x) := by
  obtain ⟨ty, hty⟩ := pfS hk
  refine ⟨F.1.wr W, fun k' nd' hk' => ?_, fun k' t hk' hq => ⟨(F.2.2.1 k' t hk' hq).1.other W (Or.inr (Jvm.RoadKit.slot_ne (laidA hw hk') (laidS hw hk) (Ne.symm (nm_sa hk hk')) (pfA hk') hty)), ?_⟩, fun k' t hk' hq => (F.2.2.2 k' t hk' hq).other W (Or.inr (Jvm.RoadKit.slot_ne (laidA hw hk') (laidS hw hk) (Ne.symm (nm_sa hk hk')) (pfA hk') hty))⟩
  · by_cases e : k' = k
    · subst e; cases hk.symm.trans hk'
      have := (F.2.1 k' nd hk).same W
      simpa [sI] using this
    · obtain ⟨ty', hty'⟩ := pfS hk'
      have := (F.2.1 k' nd' hk').other W (Or.inr (Jvm.RoadKit.slot_ne (laidS hw hk') (laidS hw hk) (nm_ss hk' hk e) hty' hty))
      simpa [sI, e] using this
  · have := arrAt_fr (wr_ne W (by omega)) (F.2.2.1 k' t hk' hq).2
    have e : el t.2.1 (sI ob k x) k' = el t.2.1 ob k' := by funext j; unfold el; split <;> rfl
    rw [e]; exact this
theorem ObjAt.putA (F : ObjAt Z h a q ob) (hk : K.2.2[k]? = some t) (hq : k < q) {x : Value} {j : Int32} (hj : ¬ j < 0 ∧ j < t.2.2) (W : Wr h h' (a + 1 + k) j.toNatClampNeg x)
    (e1 : el t.2.1 ob' k = fun i => if i = j then x else el t.2.1 ob k i) (e2 : ∀ k' t', k' ≠ k → el t' ob' k' = el t' ob k') (e3 : ob'.1 = ob.1) : ObjAt Z h' a q ob' := by
  have u : h'[a]? = h[a]? := wr_ne W (by omega)
  refine ⟨exa_fr u F.1, fun k' nd hk' => by rw [e3]; exact fld_fr u (F.2.1 k' nd hk'), fun k' t' hk' hq' => ⟨fld_fr u (F.2.2.1 k' t' hk' hq').1, ?_⟩, fun k' t' hk' hq' => fld_fr u (F.2.2.2 k' t' hk' hq')⟩
  by_cases e : k' = k
  · subst e; cases hk.symm.trans hk'
    obtain ⟨cl, A, S, V⟩ := (F.2.2.1 k' t hk hq).2
    have inb : ¬ (j < 0 ∨ cl.slots.size ≤ j.toNatClampNeg) := inb_of S hj
    refine ⟨_, A.same W, by rw [sz_set]; exact S, fun i h0 h1 => ?_⟩
    rw [e1]
    by_cases ei : i = j
    · simp only [ei, if_true]; exact get_hit inb rfl
    · simp only [ei, if_false]; rw [get_miss hj.1 h0 ei]; exact V i h0 h1
  · rw [e2 k' _ e]; exact arrAt_fr (wr_ne W (by omega)) (F.2.2.1 k' t' hk' hq').2
theorem el_sA {ty : FieldType} (ht : ty ≠ .long) (j x : Int32) : el ty (sA ob k j x) k = fun i => if i = j then .int x else el ty ob k i := by
  funext i; cases ty <;> first | exact absurd rfl ht | (simp only [el, sA, true_and]; split <;> rfl)
theorem el_sJ (j : Int32) (x : Int64) : el .long (sJ ob k j x) k = fun i => if i = j then .long x else el .long ob k i := by
  funext i; simp only [el, sJ, true_and]; split <;> rfl
theorem el_sA' (j x : Int32) (k' : Nat) (t' : FieldType) (ne : k' ≠ k) : el t' (sA ob k j x) k' = el t' ob k' := by
  funext i; cases t' <;> simp [el, sA, ne]
theorem el_sJ' (j : Int32) (x : Int64) (k' : Nat) (t' : FieldType) (ne : k' ≠ k) : el t' (sJ ob k j x) k' = el t' ob k' := by
  funext i; cases t' <;> simp [el, sJ, ne]
theorem Rep.upd (R : Rep Z n0 h (top, (a, q, ob) :: H)) (hs : h'.size = h.size) (hO : Old Z n0 h') (e : ∀ b, (b < a ∨ a + q < b) → h'[b]? = h[b]?) (F : ObjAt Z h' a q ob') : Rep Z n0 h' (top, (a, q, ob') :: H) := by
  obtain ⟨r1, r2, r3, r4⟩ := R
  refine ⟨hs.trans r1, hO, fun x hx => ?_, ?_⟩
  · rcases List.mem_cons.mp hx with rfl | hx
    · exact ⟨(r3 _ (List.mem_cons_self ..)).1, (r3 _ (List.mem_cons_self ..)).2.1, F⟩
    · obtain ⟨p1, p2, p3⟩ := r3 x (List.mem_cons_of_mem _ hx)
      refine ⟨p1, p2, p3.frame fun b h1 h2 => e b ?_⟩
      have := (List.pairwise_cons.mp r4).1 x hx
      simp only at this
      omega
  · have := List.pairwise_cons.mp r4
    exact List.pairwise_cons.mpr ⟨fun y hy => this.1 y hy, this.2⟩
theorem Rep.objs (R : Rep Z n0 h (top, (a, q, ob) :: H)) : n0 ≤ a ∧ a + q < top ∧ ObjAt Z h a q ob := R.2.2.1 _ (List.mem_cons_self ..)
theorem Rep.putI {x : Int32} (hw : ∀ d ∈ tables_1, d.before a0 Z = true) (R : Rep Z n0 h (top, (a, q, ob) :: H)) (hk : K.2.1[k]? = some nd) (W : Wr h h' a (Jvm.RoadKit.slotOf Z K.1 nd.1 nd.2) (.int x)) : Rep Z n0 h' (top, (a, q, sI ob k x) :: H) :=
  R.upd W.size (R.2.1.wr W R.objs.1) (fun b hb => wr_ne W (by omega)) (R.objs.2.2.putI hw hk W)
theorem Rep.putA {x j : Int32} (R : Rep Z n0 h (top, (a, q, ob) :: H)) (hk : K.2.2[k]? = some t) (hq : k < q) (ht : t.2.1 ≠ .long) (hj : ¬ j < 0 ∧ j < t.2.2) (W : Wr h h' (a + 1 + k) j.toNatClampNeg (.int x)) : Rep Z n0 h' (top, (a, q, sA ob k j x) :: H) :=
  R.upd W.size (R.2.1.wr W (by have := R.objs.1; omega)) (fun b hb => wr_ne W (by omega)) (R.objs.2.2.putA hk hq hj W (el_sA ht j x) (fun k' t' ne => el_sA' j x k' t' ne) rfl)
theorem Rep.putJ {j : Int32} {x : Int64} (R : Rep Z n0 h (top, (a, q, ob) :: H)) (hk : K.2.2[k]? = some t) (hq : k < q) (ht : t.2.1 = .long) (hj : ¬ j < 0 ∧ j < t.2.2) (W : Wr h h' (a + 1 + k) j.toNatClampNeg (.long x)) : Rep Z n0 h' (top, (a, q, sJ ob k j x) :: H) :=
  R.upd W.size (R.2.1.wr W (by have := R.objs.1; omega)) (fun b hb => wr_ne W (by omega)) (R.objs.2.2.putA hk hq hj W (by rw [ht]; exact el_sJ j x) (fun k' t' ne => el_sJ' j x k' t' ne) rfl)
theorem Rep.swap {x y : Nat × Nat × Rec} (R : Rep Z n0 h (top, x :: y :: H)) : Rep Z n0 h (top, y :: x :: H) := by
  obtain ⟨r1, r2, r3, r4⟩ := R
  refine ⟨r1, r2, fun z hz => r3 z ?_, ?_⟩
  · simp only [List.mem_cons] at hz ⊢
    rcases hz with e | e | e
    · exact Or.inr (Or.inl e)
    · exact Or.inl e
    · exact Or.inr (Or.inr e)
  · simp only [List.pairwise_cons, List.mem_cons] at r4 ⊢
    obtain ⟨p1, p2, p3⟩ := r4
    refine ⟨fun z hz => ?_, fun z hz => p1 z (Or.inr hz), p3⟩
    rcases hz with rfl | hz
    · exact (p1 _ (Or.inl rfl)).symm
    · exact p2 z hz
theorem ObjAt.addA (hw : ∀ d ∈ tables_1, d.before a0 Z = true) (F : ObjAt Z h a k ob) (hk : K.2.2[k]? = some t) (A : ArrAt Z h (a + 1 + k) t.2.1 t.2.2 (el t.2.1 ob k)) (W : Wr h h' a (Jvm.RoadKit.slotOf Z K.1 t.1 (aD t.2.1)) (.ref (a + 1 + k))) : ObjAt Z h' a (k + 1) ob := by
  refine ⟨F.1.wr W, fun k' nd hk' => ?_, fun k' t' hk' hq => ?_, fun k' t' hk' hq => ?_⟩
  · obtain ⟨ty', hty'⟩ := pfS hk'
    exact (F.2.1 k' nd hk').other W (Or.inr (Jvm.RoadKit.slot_ne (laidS hw hk') (laidA hw hk) (nm_sa hk' hk) hty' (pfA hk)))
  · by_cases e : k' = k
    · subst e
      have et : t = t' := Option.some.inj (hk.symm.trans hk')
      subst et
      exact ⟨(F.2.2.2 k' t hk (Nat.le_refl _)).same W, arrAt_fr (wr_ne W (by omega)) A⟩
    · obtain ⟨f1, f2⟩ := F.2.2.1 k' t' hk' (by omega)
      exact ⟨f1.other W (Or.inr (Jvm.RoadKit.slot_ne (laidA hw hk') (laidA hw hk) (nm_aa hk' hk e) (pfA hk') (pfA hk))), arrAt_fr (wr_ne W (by omega)) f2⟩
  · exact (F.2.2.2 k' t' hk' (by omega)).other W (Or.inr (Jvm.RoadKit.slot_ne (laidA hw hk') (laidA hw hk) (nm_aa hk' hk (by omega)) (pfA hk') (pfA hk)))
theorem Rep.addA {h1 h2 : Heap} (hw : ∀ d ∈ tables_1, d.before a0 Z = true) (R : Rep Z n0 h (top, (a, k, ob) :: H)) (E : Ext h h1) (s1 : h1.size = top + 1) (htop : top = a + 1 + k) (hk : K.2.2[k]? = some t) (A : ArrAt Z h1 top t.2.1 t.2.2 (el t.2.1 ob k)) (W : Wr h1 h2 a (Jvm.RoadKit.slotOf Z K.1 t.1 (aD t.2.1)) (.ref top)) : Rep Z n0 h2 (top + 1, (a, k + 1, ob) :: H) := by
  obtain ⟨q1, q2, q3⟩ := R.objs
  have hp := List.pairwise_cons.mp R.2.2.2
  have hO : ObjAt Z h2 a (k + 1) ob := by
    subst htop
    exact (q3.ext E).addA hw hk A W
  refine ⟨W.size.trans s1, (R.2.1.ext E).wr W q1, List.forall_mem_cons.mpr ⟨⟨q1, ?_, hO⟩, fun x hx => ?_⟩, List.pairwise_cons.mpr ⟨fun y hy => ?_, hp.2⟩⟩
  · show a + (k + 1) < top + 1; omega
  · obtain ⟨p1, p2, p3⟩ := R.2.2.1 x (List.mem_cons_of_mem _ hx)
    have u1 : a + k < x.1 ∨ x.1 + x.2.1 < a := hp.1 x hx
    have u2 : x.1 + x.2.1 < top := p2
    exact ⟨p1, Nat.lt_succ_of_lt u2, (p3.ext E).frame fun b h1 h2 => wr_ne W (by omega)⟩
  · have u1 : a + k < y.1 ∨ y.1 + y.2.1 < a := hp.1 y hy
    have u2 : y.1 + y.2.1 < top := (R.2.2.1 y (List.mem_cons_of_mem _ hy)).2.1
    show a + (k + 1) < y.1 ∨ y.1 + y.2.1 < a
    omega
theorem arr_new {cA : ClassId} {ty : FieldType} {len : Int32} (A : Arr Z h b (newA cA ty len) ty) (hts : ty = .int ∨ ty = .boolean ∨ ty = .long) (hz : (∀ i, ob.2.1 k i = 0) ∧ (∀ i, ob.2.2 k i = 0)) : ArrAt Z h b ty len (el ty ob k) := by
  refine ⟨_, A, sz_new _ _ _, fun i h0 h1 => ?_⟩
  have hi : ¬ (i < 0 ∨ len.toNatClampNeg ≤ i.toNatClampNeg) := by
    have e0 : (0 : Int32).toInt = 0 := rfl
    simp only [Int32.lt_iff_toInt_lt, Int32.toNatClampNeg] at *
    omega
  rw [get_new hi]
  rcases hts with rfl | rfl | rfl
  · show some (Value.int 0) = some (Value.int (ob.2.1 k i)); rw [hz.1]
  · show some (Value.int 0) = some (Value.int (ob.2.1 k i)); rw [hz.1]
  · show some (Value.long 0) = some (Value.long (ob.2.2 k i)); rw [hz.2]
theorem Rep.start (s : State) : Rep s s.heap.size s.heap (s.heap.size, []) := ⟨rfl, Old.start s, fun x hx => (by cases hx), List.Pairwise.nil⟩
end Facts
/- bodies, decode facts, patterns of local variables -/
abbrev Bdy : Type := MethodName × ByteArray × Nat × Option FieldType × Room
def DAt (M : Bdy) (pc : Nat) (i : Instr) (n q : Nat) : Prop := decode M.2.1 pc = .ok (i, n) ∧ q = pc + n
abbrev Pat : Type := List (Option Slot)
abbrev vi (x : Int32) : Option Slot := some (.val (.int x))
abbrev vl (x : Int64) : Option Slot := some (.val (.long x))
abbrev vr (a : Nat) : Option Slot := some (.val (.ref a))
abbrev v2 : Option Slot := some .second
abbrev vn : Option Slot := none
def pget : Pat → Nat → Option Slot
  | [], _ => none
  | x :: _, 0 => x
  | _ :: l, n + 1 => pget l n
theorem pget_eq : ∀ (P : Pat) (i : Nat), pget P i = (P[i]?).join
  | [], _ => by simp [pget]
  | x :: l, 0 => by simp [pget]
  | x :: l, n + 1 => by simp [pget, pget_eq l n]
def pput : Pat → Nat → Option Slot → Pat
  | [], _, _ => []
  | _ :: l, 0, y => y :: l
  | x :: l, n + 1, y => x :: pput l n y
theorem pget_pput : ∀ (P : Pat) (i j : Nat) (y : Option Slot) (s : Slot), pget (pput P i y) j = some s → (j = i ∧ y = some s) ∨ (j ≠ i ∧ pget P j = some s)
  | [], _, _, _, _, h => by simp [pput, pget] at h
  | x :: l, 0, 0, y, s, h => Or.inl ⟨rfl, h⟩
  | x :: l, 0, j + 1, y, s, h => Or.inr ⟨by omega, h⟩
  | x :: l, i + 1, 0, y, s, h => Or.inr ⟨by omega, h⟩
  | x :: l, i + 1, j + 1, y, s, h => by
    rcases pget_pput l i j y s h with ⟨e, r⟩ | ⟨e, r⟩
    · exact Or.inl ⟨by omega, r⟩
    · exact Or.inr ⟨by omega, r⟩
/-- a two-word value whose first word is at i is forgotten -/
def pk1 (P : Pat) (i : Nat) : Pat := match pget P i with
  | some (.val (.long _)) => pput P i none
  | some (.val (.double _)) => pput P i none
  | _ => P
def pk2 (P : Pat) (i : Nat) : Pat := match pget P i with
  | some .second => pput P i none
  | _ => P
def pkp (P : Pat) : Nat → Pat
  | 0 => P
  | i + 1 => pk1 P i
def ps1 (P : Pat) (i : Nat) (v : Value) : Pat := pput (pk2 (pkp P i) (i + 1)) i (some (.val v))
def ps2 (P : Pat) (i : Nat) (v : Value) : Pat := pput (pput (pk2 (pkp P i) (i + 2)) i (some (.val v))) (i + 1) (some .second)
def WFl (L : Array Slot) : Prop := (∀ i : Nat, L[i]? = some .second → ∃ (j : Nat) (v : Value), i = j + 1 ∧ L[j]? = some (.val v) ∧ v.category = 2) ∧ (∀ (i : Nat) (v : Value), L[i]? = some (.val v) → v.category = 2 → L[i + 1]? = some .second)
def Fits (P : Pat) (L : Array Slot) : Prop := (∀ i s, pget P i = some s → L[i]? = some s) ∧ WFl L
theorem pk1_sub {P : Pat} {i j : Nat} {s : Slot} (h : pget (pk1 P i) j = some s) : pget P j = some s ∧ (j = i → ∀ w : Value, s = .val w → w.category = 1) := by
  unfold pk1 at h
  split at h
  · rcases pget_pput _ _ _ _ _ h with ⟨-, e⟩ | ⟨e, r⟩
    · cases e
    · exact ⟨r, fun q => absurd q e⟩
  · rcases pget_pput _ _ _ _ _ h with ⟨-, e⟩ | ⟨e, r⟩
    · cases e
    · exact ⟨r, fun q => absurd q e⟩
  · rename_i h1 h2
    refine ⟨h, fun q w e => ?_⟩
    subst q e
    cases w <;> first | rfl | exact absurd h (h1 _) | exact absurd h (h2 _)
theorem pk2_sub {P : Pat} {i j : Nat} {s : Slot} (h : pget (pk2 P i) j = some s) : pget P j = some s ∧ (j = i → s ≠ .second) := by
  unfold pk2 at h
  split at h
  · rcases pget_pput _ _ _ _ _ h with ⟨-, e⟩ | ⟨e, r⟩
    · cases e
    · exact ⟨r, fun q => absurd q e⟩
  · rename_i h1
    refine ⟨h, fun q e => ?_⟩
    subst q e; exact h1 h
theorem pkp_sub {P : Pat} {i j : Nat} {s : Slot} (h : pget (pkp P i) j = some s) : pget P j = some s ∧ (j + 1 = i → ∀ w : Value, s = .val w → w.category = 1) := by
  cases i with
  | zero => exact ⟨h, fun q => by omega⟩
  | succ i => obtain ⟨h1, h2⟩ := pk1_sub (show pget (pk1 P i) j = some s from h); exact ⟨h1, fun q => h2 (by omega)⟩
theorem setAt_eq {L : Array Slot} {i : Nat} {x : Slot} (hi : i < L.size) : Jvm.setAt L i x = some (L.setIfInBounds i x) := by simp [Jvm.setAt, hi]
theorem sl_second {L : Array Slot} {i : Nat} {v : Value} (ho : L[i]? = some .second) : storeLocals L i v = (Jvm.setAt L (i - 1) .unset).bind fun l => storeSelf l i v := by
  unfold storeLocals; rw [ho]; rfl
theorem sl_unset {L : Array Slot} {i : Nat} {v : Value} (ho : L[i]? = some .unset) : storeLocals L i v = storeSelf L i v := by
  unfold storeLocals; rw [ho]; rfl
theorem sl_val {L : Array Slot} {i : Nat} {v o : Value} (ho : L[i]? = some (.val o)) : storeLocals L i v = if o.category = 2 then (Jvm.setAt L (i + 1) .unset).bind fun l => storeSelf l i v else storeSelf L i v := by
  unfold storeLocals; rw [ho]; rfl
theorem ss_one {L : Array Slot} {i : Nat} {v : Value} (hi : i < L.size) (hv : ¬ v.category = 2) : storeSelf L i v = some (L.setIfInBounds i (.val v)) := by
  unfold storeSelf; rw [setAt_eq hi]; simp [hv]
theorem ss_two {L : Array Slot} {i : Nat} {v : Value} {o : Slot} (hi : i < L.size) (hv : v.category = 2) (ho : L[i + 1]? = some o) : storeSelf L i v = (match o with
    | .val old => if old.category = 2 then (Jvm.setAt (L.setIfInBounds i (.val v)) (i + 2) .unset).bind fun l => Jvm.setAt l (i + 1) .second else Jvm.setAt (L.setIfInBounds i (.val v)) (i + 1) .second
    | _ => Jvm.setAt (L.setIfInBounds i (.val v)) (i + 1) .second) := by
  have e : (L.setIfInBounds i (.val v))[i + 1]? = some o := by rw [Array.getElem?_setIfInBounds_ne (by omega)]; exact ho
  unfold storeSelf; rw [setAt_eq hi]
  show (if v.category = 2 then _ else _) = _
  rw [if_pos hv, e]
  cases o <;> rfl
theorem cat12 (v : Value) : v.category = 1 ∨ v.category = 2 := by cases v <;> first | exact Or.inl rfl | exact Or.inr rfl
/-- a one-word store: what stands elsewhere stays, but for the halves of a two-word value that it breaks -/
theorem store_one {L : Array Slot} {i : Nat} {v : Value} (hW : WFl L) (hi : i < L.size) (hv : v.category = 1) :
    ∃ L', storeLocals L i v = some L' ∧ L'.size = L.size ∧ WFl L' ∧ L'[i]? = some (.val v) ∧ ∀ j, j ≠ i → L'[j]? = L[j]? ∨ (j + 1 = i ∧ L[i]? = some .second) ∨ (j = i + 1 ∧ L[j]? = some .second) := by
  have hv2 : ¬ v.category = 2 := by omega
  cases ho : L[i]? with
  | none => rw [Array.getElem?_eq_none_iff] at ho; omega
  | some o =>
    cases o with
    | unset =>
      refine ⟨L.setIfInBounds i (.val v), ?_, by simp, ?_, by simp [hi], fun j hj => Or.inl (Array.getElem?_setIfInBounds_ne (Ne.symm hj))⟩
      · rw [sl_unset ho, ss_one hi hv2]
      · refine ⟨fun j hj => ?_, fun j w hj hw => ?_⟩
        · by_cases e : j = i
          · subst e; simp [hi] at hj
          · rw [Array.getElem?_setIfInBounds_ne (Ne.symm e)] at hj
            obtain ⟨j', w, e1, e2, e3⟩ := hW.1 j hj
            refine ⟨j', w, e1, ?_, e3⟩
            rw [Array.getElem?_setIfInBounds_ne]; exact e2
            intro q; subst q; rw [ho] at e2; cases e2
        · by_cases e : j = i
          · subst e; simp [hi] at hj; subst hj; omega
          · rw [Array.getElem?_setIfInBounds_ne (Ne.symm e)] at hj
            have := hW.2 j w hj hw
            rw [Array.getElem?_setIfInBounds_ne]; exact this
            intro q; subst q; rw [ho] at this; cases this
    | second =>
      obtain ⟨j0, w0, rfl, f2, f3⟩ := hW.1 i ho
      have hj0 : j0 < L.size := by omega
      refine ⟨(L.setIfInBounds j0 .unset).setIfInBounds (j0 + 1) (.val v), ?_, by simp, ?_, by simp [hi], fun j hj => ?_⟩
      · rw [sl_second ho, show j0 + 1 - 1 = j0 from rfl, setAt_eq hj0]; exact ss_one (by simpa using hi) hv2
      · refine ⟨fun j hj => ?_, fun j w hj hw => ?_⟩
        · by_cases e : j = j0 + 1
          · subst e; simp [hi] at hj
          · rw [Array.getElem?_setIfInBounds_ne (Ne.symm e)] at hj
            by_cases e' : j = j0
            · subst e'; simp [hj0] at hj
            · rw [Array.getElem?_setIfInBounds_ne (Ne.symm e')] at hj
              obtain ⟨j', w, e1, e2, e3⟩ := hW.1 j hj
              refine ⟨j', w, e1, ?_, e3⟩
              rw [Array.getElem?_setIfInBounds_ne, Array.getElem?_setIfInBounds_ne]
              · exact e2
              · intro q; subst q; omega
              · intro q; subst q; rw [ho] at e2; cases e2
        · by_cases e : j = j0 + 1
          · subst e; simp [hi] at hj; subst hj; omega
          · rw [Array.getElem?_setIfInBounds_ne (Ne.symm e)] at hj
            by_cases e' : j = j0
            · subst e'; simp [hj0] at hj
            · rw [Array.getElem?_setIfInBounds_ne (Ne.symm e')] at hj
              have := hW.2 j w hj hw
              rw [Array.getElem?_setIfInBounds_ne, Array.getElem?_setIfInBounds_ne]
              · exact this
              · intro q; subst q; rw [f2] at this; cases this
              · omega
      · by_cases e' : j = j0
        · exact Or.inr (Or.inl ⟨by omega, rfl⟩)
        · left; rw [Array.getElem?_setIfInBounds_ne (Ne.symm hj), Array.getElem?_setIfInBounds_ne (Ne.symm e')]
    | val old =>
      by_cases hc : old.category = 2
      · have f2 := hW.2 i old ho hc
        have hi1 : i + 1 < L.size := (Array.getElem?_eq_some_iff.mp f2).1
        refine ⟨(L.setIfInBounds (i + 1) .unset).setIfInBounds i (.val v), ?_, by simp, ?_, by simp [hi], fun j hj => ?_⟩
        · rw [sl_val ho, if_pos hc, setAt_eq hi1]; exact ss_one (by simpa using hi) hv2
        · refine ⟨fun j hj => ?_, fun j w hj hw => ?_⟩
          · by_cases e : j = i
            · subst e; simp [hi] at hj
            · rw [Array.getElem?_setIfInBounds_ne (Ne.symm e)] at hj
              by_cases e' : j = i + 1
              · subst e'; simp [hi1] at hj
              · rw [Array.getElem?_setIfInBounds_ne (Ne.symm e')] at hj
                obtain ⟨j', w, e1, e2, e3⟩ := hW.1 j hj
                refine ⟨j', w, e1, ?_, e3⟩
                rw [Array.getElem?_setIfInBounds_ne, Array.getElem?_setIfInBounds_ne]
                · exact e2
                · intro q; subst q; rw [f2] at e2; cases e2
                · omega
          · by_cases e : j = i
            · subst e; simp [hi] at hj; subst hj; omega
            · rw [Array.getElem?_setIfInBounds_ne (Ne.symm e)] at hj
              by_cases e' : j = i + 1
              · subst e'; simp [hi1] at hj
              · rw [Array.getElem?_setIfInBounds_ne (Ne.symm e')] at hj
                have := hW.2 j w hj hw
                rw [Array.getElem?_setIfInBounds_ne, Array.getElem?_setIfInBounds_ne]
                · exact this
                · omega
                · intro q; subst q; rw [ho] at this; cases this
        · by_cases e' : j = i + 1
          · subst e'; exact Or.inr (Or.inr ⟨rfl, f2⟩)
          · left; rw [Array.getElem?_setIfInBounds_ne (Ne.symm hj), Array.getElem?_setIfInBounds_ne (Ne.symm e')]
      · refine ⟨L.setIfInBounds i (.val v), ?_, by simp, ?_, by simp [hi], fun j hj => Or.inl (Array.getElem?_setIfInBounds_ne (Ne.symm hj))⟩
        · rw [sl_val ho, if_neg hc, ss_one hi hv2]
        · refine ⟨fun j hj => ?_, fun j w hj hw => ?_⟩
          · by_cases e : j = i
            · subst e; simp [hi] at hj
            · rw [Array.getElem?_setIfInBounds_ne (Ne.symm e)] at hj
              obtain ⟨j', w, e1, e2, e3⟩ := hW.1 j hj
              refine ⟨j', w, e1, ?_, e3⟩
              rw [Array.getElem?_setIfInBounds_ne]; exact e2
              intro q; subst q; rw [ho] at e2; cases e2; omega
          · by_cases e : j = i
            · subst e; simp [hi] at hj; subst hj; omega
            · rw [Array.getElem?_setIfInBounds_ne (Ne.symm e)] at hj
              have := hW.2 j w hj hw
              rw [Array.getElem?_setIfInBounds_ne]; exact this
              intro q; subst q; rw [ho] at this; cases this
theorem Fits.store1 {P : Pat} {L : Array Slot} {i : Nat} {v : Value} (h : Fits P L) (hi : i < L.size) (hv : v.category = 1) :
    ∃ L', storeLocals L i v = some L' ∧ L'.size = L.size ∧ Fits (ps1 P i v) L' := by
  obtain ⟨L', e1, e2, e3, e4, e5⟩ := store_one h.2 hi hv
  refine ⟨L', e1, e2, fun j s hj => ?_, e3⟩
  rcases pget_pput _ _ _ _ _ hj with ⟨rfl, q⟩ | ⟨ne, q⟩
  · rw [e4]; exact q
  · obtain ⟨q1, q2⟩ := pk2_sub q
    obtain ⟨q3, q4⟩ := pkp_sub q1
    have hL := h.1 j s q3
    rcases e5 j ne with r | ⟨r1, r2⟩ | ⟨r1, r2⟩
    · rw [r]; exact hL
    · obtain ⟨j', w, z1, z2, z3⟩ := h.2.1 i r2
      have : j' = j := by omega
      subst this
      rw [hL] at z2; cases z2
      have := q4 r1 w rfl; omega
    · rw [hL] at r2; cases r2
      exact absurd rfl (q2 r1)
theorem st_ph1 {L : Array Slot} {i : Nat} {v : Value} (hW : WFl L) (hi : i + 1 < L.size) :
    ∃ A : Array Slot, storeLocals L i v = storeSelf A i v ∧ A.size = L.size ∧ (∀ j, j ≠ i → j ≠ i + 1 → A[j]? = L[j]? ∨ (j + 1 = i ∧ L[i]? = some .second ∧ A[j]? = some .unset)) ∧ (A[i + 1]? = L[i + 1]? ∨ (A[i + 1]? = some .unset ∧ L[i + 1]? = some .second)) ∧ (L[i]? = some .second → ∀ j, j + 1 = i → A[j]? = some .unset) := by
  have hi0 : i < L.size := by omega
  cases ho : L[i]? with
  | none => rw [Array.getElem?_eq_none_iff] at ho; omega
  | some o =>
    cases o with
    | unset => exact ⟨L, sl_unset ho, rfl, fun j _ _ => Or.inl rfl, Or.inl rfl, fun q => by cases q⟩
    | second =>
      obtain ⟨j0, w0, rfl, f2, f3⟩ := hW.1 i ho
      have hj0 : j0 < L.size := by omega
      refine ⟨L.setIfInBounds j0 .unset, by rw [sl_second ho, show j0 + 1 - 1 = j0 from rfl, setAt_eq hj0]; rfl, by simp, fun j h1 h2 => ?_, Or.inl (Array.getElem?_setIfInBounds_ne (by omega)), fun _ j hj => ?_⟩
      · by_cases e : j = j0
        · subst e; exact Or.inr ⟨rfl, rfl, by simp [hj0]⟩
        · exact Or.inl (Array.getElem?_setIfInBounds_ne (Ne.symm e))
      · have : j = j0 := by omega
        subst this; simp [hj0]
    | val old =>
      by_cases hc : old.category = 2
      · refine ⟨L.setIfInBounds (i + 1) .unset, by rw [sl_val ho, if_pos hc, setAt_eq hi]; rfl, by simp, fun j h1 h2 => Or.inl (Array.getElem?_setIfInBounds_ne (Ne.symm h2)), Or.inr ⟨by simp [hi], hW.2 i old ho hc⟩, fun q => by cases q⟩
      · exact ⟨L, by rw [sl_val ho, if_neg hc], rfl, fun j _ _ => Or.inl rfl, Or.inl rfl, fun q => by cases q⟩
theorem st_ph2 {A : Array Slot} {i : Nat} {v : Value} (hi : i + 1 < A.size) (hv : v.category = 2) (hn : ∀ w : Value, A[i + 1]? = some (.val w) → w.category = 2 → i + 2 < A.size) :
    ∃ L', storeSelf A i v = some L' ∧ L'.size = A.size ∧ L'[i]? = some (.val v) ∧ L'[i + 1]? = some .second ∧ (∀ j, j ≠ i → j ≠ i + 1 → L'[j]? = A[j]? ∨ (j = i + 2 ∧ L'[j]? = some .unset ∧ ∃ w : Value, A[i + 1]? = some (.val w) ∧ w.category = 2)) ∧ ((∃ w : Value, A[i + 1]? = some (.val w) ∧ w.category = 2) → L'[i + 2]? = some .unset) := by
  have hi0 : i < A.size := by omega
  have eB : (A.setIfInBounds i (.val v))[i + 1]? = A[i + 1]? := Array.getElem?_setIfInBounds_ne (by omega)
  have plain : (∀ w : Value, A[i + 1]? = some (.val w) → w.category ≠ 2) → storeSelf A i v = some ((A.setIfInBounds i (.val v)).setIfInBounds (i + 1) .second) := fun hq => by
    cases ho : A[i + 1]? with
    | none => rw [Array.getElem?_eq_none_iff] at ho; omega
    | some o => cases o with
      | unset => rw [ss_two hi0 hv ho]; exact setAt_eq (by simpa using hi)
      | second => rw [ss_two hi0 hv ho]; exact setAt_eq (by simpa using hi)
      | val w => have := hq w ho; rw [ss_two hi0 hv ho]; simp only [if_neg this]; exact setAt_eq (by simpa using hi)
  by_cases hw : ∃ w : Value, A[i + 1]? = some (.val w) ∧ w.category = 2
  · obtain ⟨w, h1, h2⟩ := hw
    have h3 := hn w h1 h2
    refine ⟨((A.setIfInBounds i (.val v)).setIfInBounds (i + 2) .unset).setIfInBounds (i + 1) .second, by rw [ss_two hi0 hv h1]; simp only [if_pos h2]; rw [setAt_eq (by simpa using h3)]; exact setAt_eq (by simpa using hi), by simp, ?_, by simp [hi], fun j a b => ?_, fun _ => ?_⟩
    · rw [Array.getElem?_setIfInBounds_ne (by omega), Array.getElem?_setIfInBounds_ne (by omega)]; simp [hi0]
    · rw [Array.getElem?_setIfInBounds_ne (by omega)]
      by_cases e : j = i + 2
      · subst e; exact Or.inr ⟨rfl, by simp [h3], w, h1, h2⟩
      · left; rw [Array.getElem?_setIfInBounds_ne (by omega), Array.getElem?_setIfInBounds_ne (by omega)]
    · rw [Array.getElem?_setIfInBounds_ne (by omega)]; simp [h3]
  · refine ⟨_, plain fun w h1 h2 => hw ⟨w, h1, h2⟩, by simp, ?_, by simp [hi], fun j a b => Or.inl ?_, fun q => absurd q hw⟩
    · rw [Array.getElem?_setIfInBounds_ne (by omega)]; simp [hi0]
    · rw [Array.getElem?_setIfInBounds_ne (by omega), Array.getElem?_setIfInBounds_ne (by omega)]
theorem store_two {L : Array Slot} {i : Nat} {v : Value} (hW : WFl L) (hi : i + 1 < L.size) (hv : v.category = 2) :
    ∃ L', storeLocals L i v = some L' ∧ L'.size = L.size ∧ WFl L' ∧ L'[i]? = some (.val v) ∧ L'[i + 1]? = some .second ∧ ∀ j, j ≠ i → j ≠ i + 1 → L'[j]? = L[j]? ∨ (j + 1 = i ∧ L[i]? = some .second) ∨ (j = i + 2 ∧ L[j]? = some .second) := by
  obtain ⟨A, a1, a2, a3, a4, a5⟩ := st_ph1 (v := v) hW hi
  have a6 : ∀ w : Value, A[i + 1]? = some (.val w) → w.category = 2 → L[i + 2]? = some .second := fun w h1 h2 => by
    rcases a4 with e | ⟨e, -⟩
    · rw [e] at h1; exact hW.2 _ _ h1 h2
    · rw [e] at h1; cases h1
  obtain ⟨L', b1, b2, b3, b4, b5, b6⟩ := st_ph2 (A := A) (i := i) (v := v) (by omega) hv (fun w h1 h2 => by have := (Array.getElem?_eq_some_iff.mp (a6 w h1 h2)).1; omega)
  have c : ∀ j, j ≠ i → j ≠ i + 1 → L'[j]? = L[j]? ∨ (j + 1 = i ∧ L[i]? = some .second ∧ L'[j]? = some .unset) ∨ (j = i + 2 ∧ L[j]? = some .second ∧ L'[j]? = some .unset) := fun j h1 h2 => by
    rcases b5 j h1 h2 with e | ⟨e1, e2, w, e3, e4⟩
    · rcases a3 j h1 h2 with r | ⟨r1, r2, r3⟩
      · exact Or.inl (e.trans r)
      · exact Or.inr (Or.inl ⟨r1, r2, e.trans r3⟩)
    · subst e1; exact Or.inr (Or.inr ⟨rfl, a6 w e3 e4, e2⟩)
  have cs : L[i]? = some .second → ∀ j, j + 1 = i → L'[j]? = some .unset := fun q j hj => by
    rcases b5 j (by omega) (by omega) with e | ⟨e1, -⟩
    · exact e.trans (a5 q j hj)
    · omega
  have c2 : L[i + 2]? = some .second → L'[i + 2]? = some .unset := fun q => by
    obtain ⟨j', w, z1, z2, z3⟩ := hW.1 _ q
    have : j' = i + 1 := by omega
    subst this
    rcases a4 with e | ⟨-, e⟩
    · exact b6 ⟨w, e.trans z2, z3⟩
    · rw [e] at z2; cases z2
  refine ⟨L', a1.trans b1, b2.trans a2, ⟨fun j hj => ?_, fun j w hj hw => ?_⟩, b3, b4, fun j h1 h2 => ?_⟩
  · by_cases e0 : j = i
    · subst e0; rw [b3] at hj; cases hj
    by_cases e1 : j = i + 1
    · exact ⟨i, v, e1, b3, hv⟩
    rcases c j e0 e1 with r | ⟨-, -, r⟩ | ⟨-, -, r⟩
    · rw [r] at hj
      obtain ⟨j', w, z1, z2, z3⟩ := hW.1 j hj
      refine ⟨j', w, z1, ?_, z3⟩
      have n0 : j' ≠ i := by omega
      by_cases n1 : j' = i + 1
      · have : j = i + 2 := by omega
        subst this
        rw [c2 hj] at r; rw [hj] at r; cases r
      rcases c j' n0 n1 with u | ⟨u, -, -⟩ | ⟨-, u, -⟩
      · exact u.trans z2
      · omega
      · rw [z2] at u; cases u
    · rw [r] at hj; cases hj
    · rw [r] at hj; cases hj
  · by_cases e0 : j = i
    · subst e0; exact b4
    by_cases e1 : j = i + 1
    · subst e1; rw [b4] at hj; cases hj
    rcases c j e0 e1 with r | ⟨-, -, r⟩ | ⟨-, -, r⟩
    · have hj' := hj
      rw [r] at hj
      have z := hW.2 j w hj hw
      by_cases n0 : j + 1 = i
      · subst n0; rw [cs z j rfl] at hj'; cases hj'
      by_cases n1 : j + 1 = i + 1
      · omega
      rcases c (j + 1) n0 n1 with u | ⟨u1, u2, -⟩ | ⟨u, -, -⟩
      · exact u.trans z
      · obtain ⟨j', w', y1, y2, y3⟩ := hW.1 i u2
        have : j' = j + 1 := by omega
        subst this; rw [z] at y2; cases y2
      · omega
    · rw [r] at hj; cases hj
    · rw [r] at hj; cases hj
  · rcases c j h1 h2 with r | ⟨r1, r2, -⟩ | ⟨r1, r2, -⟩
    · exact Or.inl r
    · exact Or.inr (Or.inl ⟨r1, r2⟩)
    · exact Or.inr (Or.inr ⟨r1, r2⟩)
theorem Fits.store2 {P : Pat} {L : Array Slot} {i : Nat} {v : Value} (h : Fits P L) (hi : i + 1 < L.size) (hv : v.category = 2) :
    ∃ L', storeLocals L i v = some L' ∧ L'.size = L.size ∧ Fits (ps2 P i v) L' := by
  obtain ⟨L', e1, e2, e3, e4, e4', e5⟩ := store_two h.2 hi hv
  refine ⟨L', e1, e2, fun j s hj => ?_, e3⟩
  rcases pget_pput _ _ _ _ _ hj with ⟨rfl, q⟩ | ⟨ne, q⟩
  · rw [e4']; exact q
  rcases pget_pput _ _ _ _ _ q with ⟨rfl, q'⟩ | ⟨ne', q'⟩
  · rw [e4]; exact q'
  obtain ⟨q1, q2⟩ := pk2_sub q'
  obtain ⟨q3, q4⟩ := pkp_sub q1
  have hL := h.1 j s q3
  rcases e5 j ne' ne with r | ⟨r1, r2⟩ | ⟨r1, r2⟩
  · rw [r]; exact hL
  · obtain ⟨j', w, z1, z2, z3⟩ := h.2.1 i r2
    have : j' = j := by omega
    subst this
    rw [hL] at z2; cases z2
    have := q4 r1 w rfl; omega
  · rw [hL] at r2; cases r2
    exact absurd rfl (q2 r1)
/- what a body does from a place on -/
def Runs (C : Ctx) (M : Bdy) (k n pc : Nat) (P : Pat) (S : List Value) (G : AH) (Q : Option Value → AH → Prop) : Prop :=
  Ok C → ∀ (p : Program) (e : Env) (s : State) (m : MethodId) (args : Array Value) (below : List Frame) (meth : Method) (c : Code) (T : State) (locs : List Loc) (L : Array Slot),
    p.tables.exec = Jvm.exec → c.code = M.2.1 → c.maxLocals = M.2.2.1 → meth.sig.returnType = M.2.2.2.1 → meth.name = M.1.name → s.vm.findClass M.1.cls = some m.cls → C.2.1.Warmed39 s.vm →
    Fits P L → L.size = M.2.2.1 → Stand p C.1 e M.2.2.2.2 s m args below meth c T locs k n → Rep C.2.1 C.2.2.1 T.heap G → Fr C.2.2.1 locs →
    ∃ (T' : State) (locs' : List Loc) (k' n' : Nat) (r : Option Value) (G' : AH), Stand p C.1 e M.2.2.2.2 s m args below meth c T' locs' k' n' ∧ k' ≤ M.2.2.2.2.cells ∧ n' ≤ M.2.2.2.2.slots ∧ Rep C.2.1 C.2.2.1 T'.heap G' ∧ Fr C.2.2.1 locs' ∧ Q r G' ∧
      (M.2.2.2.1 = none → r = none) ∧
      ∀ fs : List Frame, (∀ (f : JFrame) (acts : List Action), f.method = m → f.locked = none → f.entered = [] → (doReturn e (T'.setTop f) acts r).1 = T'.setFrames fs) → Steps p.tables e below (T.setTop (mkF m pc L S)) (T'.setFrames fs)
section Rules
variable {C : Ctx} {M : Bdy} {k n pc q : Nat} {P P' : Pat} {S S' : List Value} {G : AH} {Q : Option Value → AH → Prop}
/-- a step that leaves the heap alone -/
theorem Runs.pure {i : Instr} {len : Nat} (d : DAt M pc i len q) {pc' : Nat}
    (st : ∀ (p : Program) (e : Env) (s : State) (m : MethodId) (args : Array Value) (below : List Frame) (meth : Method) (c : Code) (T : State) (locs : List Loc) (L : Array Slot), Ok C → p.tables.exec = Jvm.exec → s.vm.findClass M.1.cls = some m.cls → C.2.1.Warmed39 s.vm → decode c.code pc = .ok (i, len) → Fits P L → L.size = M.2.2.1 → Rep C.2.1 C.2.2.1 T.heap G →
      Stand p C.1 e M.2.2.2.2 s m args below meth c T locs k n → ∃ L', Fits P' L' ∧ L'.size = M.2.2.1 ∧ ∀ t, Steps p.tables e below (T.setTop (mkF m pc' L' S')) t → Steps p.tables e below (T.setTop (mkF m pc L S)) t)
    (h : Runs C M k n pc' P' S' G Q) : Runs C M k n pc P S G Q := by
  intro hw p e s m args below meth c T locs L hx hby hml hret hnm hown hZ hP hsz X hR hF
  obtain ⟨L', f1, f2, f3⟩ := st p e s m args below meth c T locs L hw hx hown hZ (hb hby d.1) hP hsz hR X
  obtain ⟨T', locs', k', n', r, G', g1, g2, g3, g4, g5, g6, g7, g8⟩ := h hw p e s m args below meth c T locs L' hx hby hml hret hnm hown hZ f1 f2 X hR hF
  exact ⟨T', locs', k', n', r, G', g1, g2, g3, g4, g5, g6, g7, fun fs hr => f3 _ (g8 fs hr)⟩
/-- a step that keeps the locals and what the heap says -/
theorem Runs.stk {i : Instr} {len : Nat} (d : DAt M pc i len q)
    (st : ∀ (p : Program) (e : Env) (s : State) (m : MethodId) (args : Array Value) (below : List Frame) (meth : Method) (c : Code) (T : State) (locs : List Loc) (L : Array Slot), p.tables.exec = Jvm.exec → decode c.code pc = .ok (i, len) → Fits P L →
      Stand p C.1 e M.2.2.2.2 s m args below meth c T locs k n → ∀ t, Steps p.tables e below (T.setTop (mkF m (pc + len) L S')) t → Steps p.tables e below (T.setTop (mkF m pc L S)) t)
    (h : Runs C M k n q P S' G Q) : Runs C M k n pc P S G Q := by
  have hq := d.2
  subst hq
  exact Runs.pure d (fun p e s m args below meth c T locs L _ hx _ _ hd hP hsz _ X => ⟨L, hP, hsz, st p e s m args below meth c T locs L hx hd hP X⟩) h
theorem Runs.iloadN {j : Fin 4} {v : Int32} (d : DAt M pc (.iload_n j) 1 q) (hl : pget P j.val = vi v) (h : Runs C M k n q P (.int v :: S) G Q) : Runs C M k n pc P S G Q :=
  Runs.stk d (fun p e s m args below meth c T locs L hx hd hP X t r => XS.iloadN (g := mkF m pc L S) X.here hx rfl hd (hP.1 _ _ hl) r) h
theorem Runs.iload {j : Nat} {v : Int32} (d : DAt M pc (.iload j) 2 q) (hl : pget P j = vi v) (h : Runs C M k n q P (.int v :: S) G Q) : Runs C M k n pc P S G Q :=
  Runs.stk d (fun p e s m args below meth c T locs L hx hd hP X t r => XS.iload (g := mkF m pc L S) X.here hx rfl hd (hP.1 _ _ hl) r) h
theorem Runs.lloadN {j : Fin 4} {v : Int64} (d : DAt M pc (.lload_n j) 1 q) (hl : pget P j.val = vl v) (h : Runs C M k n q P (.long v :: S) G Q) : Runs C M k n pc P S G Q :=
  Runs.stk d (fun p e s m args below meth c T locs L hx hd hP X t r => XS.lloadN (g := mkF m pc L S) X.here hx rfl hd (hP.1 _ _ hl) r) h
theorem Runs.lload {j : Nat} {v : Int64} (d : DAt M pc (.lload j) 2 q) (hl : pget P j = vl v) (h : Runs C M k n q P (.long v :: S) G Q) : Runs C M k n pc P S G Q :=
  Runs.stk d (fun p e s m args below meth c T locs L hx hd hP X t r => XS.lload (g := mkF m pc L S) X.here hx rfl hd (hP.1 _ _ hl) r) h
theorem Runs.aloadN {j : Fin 4} {v : Nat} (d : DAt M pc (.aload_n j) 1 q) (hl : pget P j.val = vr v) (h : Runs C M k n q P (.ref v :: S) G Q) : Runs C M k n pc P S G Q :=
  Runs.stk d (fun p e s m args below meth c T locs L hx hd hP X t r => XS.aloadN (g := mkF m pc L S) X.here hx rfl hd (hP.1 _ _ hl) rfl r) h
theorem Runs.aload {j : Nat} {v : Nat} (d : DAt M pc (.aload j) 2 q) (hl : pget P j = vr v) (h : Runs C M k n q P (.ref v :: S) G Q) : Runs C M k n pc P S G Q :=
  Runs.stk d (fun p e s m args below meth c T locs L hx hd hP X t r => XS.aload (g := mkF m pc L S) X.here hx rfl hd (hP.1 _ _ hl) rfl r) h
theorem Runs.iconst {i : Int} {v : Int32} (d : DAt M pc (.iconst i) 1 q) (hv : Int32.ofInt i = v) (h : Runs C M k n q P (.int v :: S) G Q) : Runs C M k n pc P S G Q :=
  Runs.stk d (fun p e s m args below meth c T locs L hx hd hP X t r => XS.iconst (g := mkF m pc L S) X.here hx rfl hd (by rw [hv]; exact r)) h
theorem Runs.bipush {i : Int} {v : Int32} (d : DAt M pc (.bipush i) 2 q) (hv : (Int8.ofInt i).toInt32 = v) (h : Runs C M k n q P (.int v :: S) G Q) : Runs C M k n pc P S G Q :=
  Runs.stk d (fun p e s m args below meth c T locs L hx hd hP X t r => XS.bipush (g := mkF m pc L S) X.here hx rfl hd (by rw [hv]; exact r)) h
theorem Runs.sipush {i : Int} {v : Int32} (d : DAt M pc (.sipush i) 3 q) (hv : (Int16.ofInt i).toInt32 = v) (h : Runs C M k n q P (.int v :: S) G Q) : Runs C M k n pc P S G Q :=
  Runs.stk d (fun p e s m args below meth c T locs L hx hd hP X t r => XS.sipush (g := mkF m pc L S) X.here hx rfl hd (by rw [hv]; exact r)) h
theorem Runs.lconst {i : Fin 2} {v : Int64} (d : DAt M pc (.lconst i) 1 q) (hv : Int64.ofNat i = v) (h : Runs C M k n q P (.long v :: S) G Q) : Runs C M k n pc P S G Q :=
  Runs.stk d (fun p e s m args below meth c T locs L hx hd hP X t r => Jvm.Free.XT.lconstV (g := mkF m pc L S) X.here hx rfl v hd hv r) h
theorem Runs.ldc {i : Nat} {v : Int32} (d : DAt M pc (.ldc i) 2 q) (w : Jvm.Cond.constant M.1.cls i v ∈ tables_1) (h : Runs C M k n q P (.int v :: S) G Q) : Runs C M k n pc P S G Q := by
  have hq := d.2
  subst hq
  exact Runs.pure d (fun p e s m args below meth c T locs L hw hx hown hZ hd hP hsz _ X => ⟨L, hP, hsz, fun t r => X.ldcInt hx hown (mvT hZ (hw _ w)) (g := mkF m pc L S) rfl hd t r⟩) h
theorem Runs.ldc2 {i : Nat} {v : Int64} (d : DAt M pc (.ldc2_w i) 3 q) (w : Jvm.Cond.constantLong M.1.cls i v ∈ tables_1) (h : Runs C M k n q P (.long v :: S) G Q) : Runs C M k n pc P S G Q := by
  have hq := d.2
  subst hq
  exact Runs.pure d (fun p e s m args below meth c T locs L hw hx hown hZ hd hP hsz _ X => ⟨L, hP, hsz, fun t r => X.ldc2Long hx hown (mvT hZ (hw _ w)) (g := mkF m pc L S) rfl hd t r⟩) h
theorem Runs.iadd {x y : Int32} (d : DAt M pc .iadd 1 q) (h : Runs C M k n q P (.int (x + y) :: S) G Q) : Runs C M k n pc P (.int y :: .int x :: S) G Q :=
  Runs.stk d (fun p e s m args below meth c T locs L hx hd hP X t r => XS.iadd (g := mkF m pc L (.int y :: .int x :: S)) X.here hx rfl hd rfl r) h
theorem Runs.isub {x y : Int32} (d : DAt M pc .isub 1 q) (h : Runs C M k n q P (.int (x - y) :: S) G Q) : Runs C M k n pc P (.int y :: .int x :: S) G Q :=
  Runs.stk d (fun p e s m args below meth c T locs L hx hd hP X t r => XS.isub (g := mkF m pc L (.int y :: .int x :: S)) X.here hx rfl hd rfl r) h
theorem Runs.imul {x y : Int32} (d : DAt M pc .imul 1 q) (h : Runs C M k n q P (.int (x * y) :: S) G Q) : Runs C M k n pc P (.int y :: .int x :: S) G Q :=
  Runs.stk d (fun p e s m args below meth c T locs L hx hd hP X t r => XS.imul (g := mkF m pc L (.int y :: .int x :: S)) X.here hx rfl hd rfl r) h
theorem Runs.iand {x y : Int32} (d : DAt M pc .iand 1 q) (h : Runs C M k n q P (.int (x &&& y) :: S) G Q) : Runs C M k n pc P (.int y :: .int x :: S) G Q :=
  Runs.stk d (fun p e s m args below meth c T locs L hx hd hP X t r => XS.iand (g := mkF m pc L (.int y :: .int x :: S)) X.here hx rfl hd rfl r) h
theorem Runs.ior {x y : Int32} (d : DAt M pc .ior 1 q) (h : Runs C M k n q P (.int (x ||| y) :: S) G Q) : Runs C M k n pc P (.int y :: .int x :: S) G Q :=
  Runs.stk d (fun p e s m args below meth c T locs L hx hd hP X t r => XS.ior (g := mkF m pc L (.int y :: .int x :: S)) X.here hx rfl hd rfl r) h
theorem Runs.ixor {x y : Int32} (d : DAt M pc .ixor 1 q) (h : Runs C M k n q P (.int (x ^^^ y) :: S) G Q) : Runs C M k n pc P (.int y :: .int x :: S) G Q :=
  Runs.stk d (fun p e s m args below meth c T locs L hx hd hP X t r => XS.ixor (g := mkF m pc L (.int y :: .int x :: S)) X.here hx rfl hd rfl r) h
theorem Runs.ladd {x y : Int64} (d : DAt M pc .ladd 1 q) (h : Runs C M k n q P (.long (x + y) :: S) G Q) : Runs C M k n pc P (.long y :: .long x :: S) G Q :=
  Runs.stk d (fun p e s m args below meth c T locs L hx hd hP X t r => XS.ladd (g := mkF m pc L (.long y :: .long x :: S)) X.here hx rfl hd rfl r) h
theorem Runs.lsub {x y : Int64} (d : DAt M pc .lsub 1 q) (h : Runs C M k n q P (.long (x - y) :: S) G Q) : Runs C M k n pc P (.long y :: .long x :: S) G Q :=
  Runs.stk d (fun p e s m args below meth c T locs L hx hd hP X t r => XS.lsub (g := mkF m pc L (.long y :: .long x :: S)) X.here hx rfl hd rfl r) h
theorem Runs.lmul {x y : Int64} (d : DAt M pc .lmul 1 q) (h : Runs C M k n q P (.long (x * y) :: S) G Q) : Runs C M k n pc P (.long y :: .long x :: S) G Q :=
  Runs.stk d (fun p e s m args below meth c T locs L hx hd hP X t r => XS.lmul (g := mkF m pc L (.long y :: .long x :: S)) X.here hx rfl hd rfl r) h
theorem Runs.land {x y : Int64} (d : DAt M pc .land 1 q) (h : Runs C M k n q P (.long (x &&& y) :: S) G Q) : Runs C M k n pc P (.long y :: .long x :: S) G Q :=
  Runs.stk d (fun p e s m args below meth c T locs L hx hd hP X t r => XS.land (g := mkF m pc L (.long y :: .long x :: S)) X.here hx rfl hd rfl r) h
theorem Runs.lor {x y : Int64} (d : DAt M pc .lor 1 q) (h : Runs C M k n q P (.long (x ||| y) :: S) G Q) : Runs C M k n pc P (.long y :: .long x :: S) G Q :=
  Runs.stk d (fun p e s m args below meth c T locs L hx hd hP X t r => XS.lor (g := mkF m pc L (.long y :: .long x :: S)) X.here hx rfl hd rfl r) h
theorem Runs.lxor {x y : Int64} (d : DAt M pc .lxor 1 q) (h : Runs C M k n q P (.long (x ^^^ y) :: S) G Q) : Runs C M k n pc P (.long y :: .long x :: S) G Q :=
  Runs.stk d (fun p e s m args below meth c T locs L hx hd hP X t r => XS.lxor (g := mkF m pc L (.long y :: .long x :: S)) X.here hx rfl hd rfl r) h
theorem Runs.ishl {x : Int32} {y : Int32} (d : DAt M pc .ishl 1 q) (h : Runs C M k n q P (.int (x <<< (y &&& 31)) :: S) G Q) : Runs C M k n pc P (.int y :: .int x :: S) G Q :=
  Runs.stk d (fun p e s m args below meth c T locs L hx hd hP X t r => XS.ishl (g := mkF m pc L (.int y :: .int x :: S)) X.here hx rfl hd rfl r) h
theorem Runs.ishr {x : Int32} {y : Int32} (d : DAt M pc .ishr 1 q) (h : Runs C M k n q P (.int (x >>> (y &&& 31)) :: S) G Q) : Runs C M k n pc P (.int y :: .int x :: S) G Q :=
  Runs.stk d (fun p e s m args below meth c T locs L hx hd hP X t r => XS.ishr (g := mkF m pc L (.int y :: .int x :: S)) X.here hx rfl hd rfl r) h
theorem Runs.iushr {x : Int32} {y : Int32} (d : DAt M pc .iushr 1 q) (h : Runs C M k n q P (.int ((x.toUInt32 >>> (y &&& 31).toUInt32).toInt32) :: S) G Q) : Runs C M k n pc P (.int y :: .int x :: S) G Q :=
  Runs.stk d (fun p e s m args below meth c T locs L hx hd hP X t r => XS.iushr (g := mkF m pc L (.int y :: .int x :: S)) X.here hx rfl hd rfl r) h
theorem Runs.lshl {x : Int64} {y : Int32} (d : DAt M pc .lshl 1 q) (h : Runs C M k n q P (.long (x <<< (y &&& 0x3f).toInt64) :: S) G Q) : Runs C M k n pc P (.int y :: .long x :: S) G Q :=
  Runs.stk d (fun p e s m args below meth c T locs L hx hd hP X t r => XS.lshl (g := mkF m pc L (.int y :: .long x :: S)) X.here hx rfl hd rfl r) h
theorem Runs.lshr {x : Int64} {y : Int32} (d : DAt M pc .lshr 1 q) (h : Runs C M k n q P (.long (x >>> (y &&& 0x3f).toInt64) :: S) G Q) : Runs C M k n pc P (.int y :: .long x :: S) G Q :=
  Runs.stk d (fun p e s m args below meth c T locs L hx hd hP X t r => XS.lshr (g := mkF m pc L (.int y :: .long x :: S)) X.here hx rfl hd rfl r) h
theorem Runs.lushr {x : Int64} {y : Int32} (d : DAt M pc .lushr 1 q) (h : Runs C M k n q P (.long ((x.toUInt64 >>> (y &&& 0x3f).toInt64.toUInt64).toInt64) :: S) G Q) : Runs C M k n pc P (.int y :: .long x :: S) G Q :=
  Runs.stk d (fun p e s m args below meth c T locs L hx hd hP X t r => XS.lushr (g := mkF m pc L (.int y :: .long x :: S)) X.here hx rfl hd rfl r) h
theorem Runs.ineg {x : Int32} (d : DAt M pc .ineg 1 q) (h : Runs C M k n q P (.int (-x) :: S) G Q) : Runs C M k n pc P (.int x :: S) G Q :=
  Runs.stk d (fun p e s m args below meth c T locs L hx hd hP X t r => XS.ineg (g := mkF m pc L (.int x :: S)) X.here hx rfl hd rfl r) h
theorem Runs.lneg {x : Int64} (d : DAt M pc .lneg 1 q) (h : Runs C M k n q P (.long (-x) :: S) G Q) : Runs C M k n pc P (.long x :: S) G Q :=
  Runs.stk d (fun p e s m args below meth c T locs L hx hd hP X t r => XS.lneg (g := mkF m pc L (.long x :: S)) X.here hx rfl hd rfl r) h
theorem Runs.i2l {x : Int32} (d : DAt M pc .i2l 1 q) (h : Runs C M k n q P (.long x.toInt64 :: S) G Q) : Runs C M k n pc P (.int x :: S) G Q :=
  Runs.stk d (fun p e s m args below meth c T locs L hx hd hP X t r => XS.i2l (g := mkF m pc L (.int x :: S)) X.here hx rfl hd rfl r) h
theorem Runs.l2i {x : Int64} (d : DAt M pc .l2i 1 q) (h : Runs C M k n q P (.int x.toInt32 :: S) G Q) : Runs C M k n pc P (.long x :: S) G Q :=
  Runs.stk d (fun p e s m args below meth c T locs L hx hd hP X t r => XS.l2i (g := mkF m pc L (.long x :: S)) X.here hx rfl hd rfl r) h
theorem Runs.lcmp {x y : Int64} (d : DAt M pc .lcmp 1 q) (h : Runs C M k n q P (.int (lcmpW x y) :: S) G Q) : Runs C M k n pc P (.long y :: .long x :: S) G Q :=
  Runs.stk d (fun p e s m args below meth c T locs L hx hd hP X t r => XS.lcmp (g := mkF m pc L (.long y :: .long x :: S)) X.here hx rfl hd rfl r) h
theorem Runs.idiv {x y : Int32} (d : DAt M pc .idiv 1 q) (hy : y ≠ 0) (h : Runs C M k n q P (.int (x / y) :: S) G Q) : Runs C M k n pc P (.int y :: .int x :: S) G Q :=
  Runs.stk d (fun p e s m args below meth c T locs L hx hd hP X t r => XS.idiv (g := mkF m pc L (.int y :: .int x :: S)) X.here hx rfl hd rfl hy r) h
theorem Runs.irem {x y : Int32} (d : DAt M pc .irem 1 q) (hy : y ≠ 0) (h : Runs C M k n q P (.int (x % y) :: S) G Q) : Runs C M k n pc P (.int y :: .int x :: S) G Q :=
  Runs.stk d (fun p e s m args below meth c T locs L hx hd hP X t r => iremM (g := mkF m pc L (.int y :: .int x :: S)) X hx rfl hd rfl hy r) h
theorem Runs.dup {x : Value} (d : DAt M pc .dup 1 q) (hc : x.category = 1) (h : Runs C M k n q P (x :: x :: S) G Q) : Runs C M k n pc P (x :: S) G Q :=
  Runs.stk d (fun p e s m args below meth c T locs L hx hd hP X t r => XS.dup (g := mkF m pc L (x :: S)) X.here hx rfl hd rfl hc r) h
theorem Runs.dup2 {x y : Value} (d : DAt M pc .dup2 1 q) (hc : x.category = 1) (hc' : y.category = 1) (h : Runs C M k n q P (x :: y :: x :: y :: S) G Q) : Runs C M k n pc P (x :: y :: S) G Q :=
  Runs.stk d (fun p e s m args below meth c T locs L hx hd hP X t r => Jvm.Free.XT.dup2 (g := mkF m pc L (x :: y :: S)) X.here hx rfl hd rfl hc hc' r) h
theorem Runs.pop {x : Value} (d : DAt M pc .pop 1 q) (hc : x.category = 1) (h : Runs C M k n q P S G Q) : Runs C M k n pc P (x :: S) G Q :=
  Runs.stk d (fun p e s m args below meth c T locs L hx hd hP X t r => XS.pop (g := mkF m pc L (x :: S)) X.here hx rfl hd rfl hc r) h
theorem Runs.goto {o : Int} {pc' : Nat} (d : DAt M pc (.goto o) 3 q) (ho : 0 ≤ (pc : Int) + o ∧ ((pc : Int) + o).toNat = pc') (h : Runs C M k n pc' P S G Q) : Runs C M k n pc P S G Q :=
  Runs.pure d (fun p e s m args below meth c T locs L hw hx hown hZ hd hP hsz _ X => ⟨L, hP, hsz, fun t r => XS.goto (g := mkF m pc L S) X.here hx rfl (pc0 := pc) rfl hd ho.1 ho.2 r⟩) h
theorem Runs.ifY {cd : ClassFile.Cond} {x : Int32} {o : Int} {pc' : Nat} (d : DAt M pc (.ifCond cd o) 3 q) (hc : if_icmp.holds cd x 0 = true) (ho : 0 ≤ (pc : Int) + o ∧ ((pc : Int) + o).toNat = pc') (h : Runs C M k n pc' P S G Q) : Runs C M k n pc P (.int x :: S) G Q :=
  Runs.pure d (fun p e s m args below meth c T locs L hw hx hown hZ hd hP hsz _ X => ⟨L, hP, hsz, fun t r => XS.ifYes (g := mkF m pc L (.int x :: S)) X.here hx rfl (pc0 := pc) rfl hd rfl ((if0 _ _).trans hc) ho.1 ho.2 r⟩) h
theorem Runs.ifN {cd : ClassFile.Cond} {x : Int32} {o : Int} (d : DAt M pc (.ifCond cd o) 3 q) (hc : if_icmp.holds cd x 0 = false) (h : Runs C M k n q P S G Q) : Runs C M k n pc P (.int x :: S) G Q :=
  Runs.stk d (fun p e s m args below meth c T locs L hx hd hP X t r => XS.ifNo (g := mkF m pc L (.int x :: S)) X.here hx rfl hd rfl ((if0 _ _).trans hc) r) h
theorem Runs.icY {cd : ClassFile.Cond} {x y : Int32} {o : Int} {pc' : Nat} (d : DAt M pc (.if_icmp cd o) 3 q) (hc : if_icmp.holds cd x y = true) (ho : 0 ≤ (pc : Int) + o ∧ ((pc : Int) + o).toNat = pc') (h : Runs C M k n pc' P S G Q) : Runs C M k n pc P (.int y :: .int x :: S) G Q :=
  Runs.pure d (fun p e s m args below meth c T locs L hw hx hown hZ hd hP hsz _ X => ⟨L, hP, hsz, fun t r => XS.icmpYes (g := mkF m pc L (.int y :: .int x :: S)) X.here hx rfl (pc0 := pc) rfl hd rfl hc ho.1 ho.2 r⟩) h
theorem Runs.icN {cd : ClassFile.Cond} {x y : Int32} {o : Int} (d : DAt M pc (.if_icmp cd o) 3 q) (hc : if_icmp.holds cd x y = false) (h : Runs C M k n q P S G Q) : Runs C M k n pc P (.int y :: .int x :: S) G Q :=
  Runs.stk d (fun p e s m args below meth c T locs L hx hd hP X t r => XS.icmpNo (g := mkF m pc L (.int y :: .int x :: S)) X.here hx rfl hd rfl hc r) h
theorem Runs.tswI {dflt low high : Int} {offs : Array Int} {len : Nat} {o : Int} {pc' : Nat} {i : Int32} (d : DAt M pc (.tableswitch dflt low high offs) len q) (hin : ¬ (i.toInt < low ∨ i.toInt > high)) (hoff : offs[(i.toInt - low).toNat]? = some o) (ho : 0 ≤ (pc : Int) + o ∧ ((pc : Int) + o).toNat = pc') (h : Runs C M k n pc' P S G Q) : Runs C M k n pc P (.int i :: S) G Q :=
  Runs.pure d (fun p e s m args below meth c T locs L hw hx hown hZ hd hP hsz _ X => ⟨L, hP, hsz, fun t r => XS.tswIn (g := mkF m pc L (.int i :: S)) X.here hx rfl (pc0 := pc) rfl hd rfl hin hoff ho.1 ho.2 r⟩) h
theorem Runs.tswO {dflt low high : Int} {offs : Array Int} {len : Nat} {pc' : Nat} {i : Int32} (d : DAt M pc (.tableswitch dflt low high offs) len q) (hout : i.toInt < low ∨ i.toInt > high) (ho : 0 ≤ (pc : Int) + dflt ∧ ((pc : Int) + dflt).toNat = pc') (h : Runs C M k n pc' P S G Q) : Runs C M k n pc P (.int i :: S) G Q :=
  Runs.pure d (fun p e s m args below meth c T locs L hw hx hown hZ hd hP hsz _ X => ⟨L, hP, hsz, fun t r => XS.tswOut (g := mkF m pc L (.int i :: S)) X.here hx rfl (pc0 := pc) rfl hd rfl hout ho.1 ho.2 r⟩) h
theorem Runs.istoreN {j : Fin 4} {x : Int32} (d : DAt M pc (.istore_n j) 1 q) (hi : j.val < M.2.2.1) (hP' : ps1 P j.val (.int x) = P') (h : Runs C M k n q P' S G Q) : Runs C M k n pc P (.int x :: S) G Q := by
  have hq := d.2
  subst hq hP'
  refine Runs.pure d (fun p e s m args below meth c T locs L hw hx hown hZ hd hP hsz _ X => ?_) h
  obtain ⟨L', e1, e2, e3⟩ := hP.store1 (i := j.val) (v := .int x) (by omega) rfl
  exact ⟨L', e3, e2.trans hsz, fun t r => XS.istoreN (g := mkF m pc L (.int x :: S)) X.here hx rfl hd rfl e1 r⟩
theorem Runs.istore {j : Nat} {x : Int32} (d : DAt M pc (.istore j) 2 q) (hi : j < M.2.2.1) (hP' : ps1 P j (.int x) = P') (h : Runs C M k n q P' S G Q) : Runs C M k n pc P (.int x :: S) G Q := by
  have hq := d.2
  subst hq hP'
  refine Runs.pure d (fun p e s m args below meth c T locs L hw hx hown hZ hd hP hsz _ X => ?_) h
  obtain ⟨L', e1, e2, e3⟩ := hP.store1 (i := j) (v := .int x) (by omega) rfl
  exact ⟨L', e3, e2.trans hsz, fun t r => XS.istore (g := mkF m pc L (.int x :: S)) X.here hx rfl hd rfl e1 r⟩
theorem Runs.astoreN {j : Fin 4} {x : Nat} (d : DAt M pc (.astore_n j) 1 q) (hi : j.val < M.2.2.1) (hP' : ps1 P j.val (.ref x) = P') (h : Runs C M k n q P' S G Q) : Runs C M k n pc P (.ref x :: S) G Q := by
  have hq := d.2
  subst hq hP'
  refine Runs.pure d (fun p e s m args below meth c T locs L hw hx hown hZ hd hP hsz _ X => ?_) h
  obtain ⟨L', e1, e2, e3⟩ := hP.store1 (i := j.val) (v := .ref x) (by omega) rfl
  exact ⟨L', e3, e2.trans hsz, fun t r => XS.astoreN (g := mkF m pc L (.ref x :: S)) X.here hx rfl hd rfl rfl e1 r⟩
theorem Runs.astore {j : Nat} {x : Nat} (d : DAt M pc (.astore j) 2 q) (hi : j < M.2.2.1) (hP' : ps1 P j (.ref x) = P') (h : Runs C M k n q P' S G Q) : Runs C M k n pc P (.ref x :: S) G Q := by
  have hq := d.2
  subst hq hP'
  refine Runs.pure d (fun p e s m args below meth c T locs L hw hx hown hZ hd hP hsz _ X => ?_) h
  obtain ⟨L', e1, e2, e3⟩ := hP.store1 (i := j) (v := .ref x) (by omega) rfl
  exact ⟨L', e3, e2.trans hsz, fun t r => XS.astore (g := mkF m pc L (.ref x :: S)) X.here hx rfl hd rfl rfl e1 r⟩
theorem Runs.lstoreN {j : Fin 4} {x : Int64} (d : DAt M pc (.lstore_n j) 1 q) (hi : j.val + 1 < M.2.2.1) (hP' : ps2 P j.val (.long x) = P') (h : Runs C M k n q P' S G Q) : Runs C M k n pc P (.long x :: S) G Q := by
  have hq := d.2
  subst hq hP'
  refine Runs.pure d (fun p e s m args below meth c T locs L hw hx hown hZ hd hP hsz _ X => ?_) h
  obtain ⟨L', e1, e2, e3⟩ := hP.store2 (i := j.val) (v := .long x) (by omega) rfl
  exact ⟨L', e3, e2.trans hsz, fun t r => XS.lstoreN (g := mkF m pc L (.long x :: S)) X.here hx rfl hd rfl e1 r⟩
theorem Runs.lstore {j : Nat} {x : Int64} (d : DAt M pc (.lstore j) 2 q) (hi : j + 1 < M.2.2.1) (hP' : ps2 P j (.long x) = P') (h : Runs C M k n q P' S G Q) : Runs C M k n pc P (.long x :: S) G Q := by
  have hq := d.2
  subst hq hP'
  refine Runs.pure d (fun p e s m args below meth c T locs L hw hx hown hZ hd hP hsz _ X => ?_) h
  obtain ⟨L', e1, e2, e3⟩ := hP.store2 (i := j) (v := .long x) (by omega) rfl
  exact ⟨L', e3, e2.trans hsz, fun t r => XS.lstore (g := mkF m pc L (.long x :: S)) X.here hx rfl hd rfl e1 r⟩
theorem Runs.iinc {j : Nat} {cst : Int} {x v : Int32} (d : DAt M pc (.iinc j cst) 3 q) (hv : Int32.ofInt cst = v) (hl : pget P j = vi x) (hi : j < M.2.2.1) (hP' : ps1 P j (.int (x + v)) = P') (h : Runs C M k n q P' S G Q) : Runs C M k n pc P S G Q := by
  have hq := d.2
  subst hq hP' hv
  refine Runs.pure d (fun p e s m args below meth c T locs L hw hx hown hZ hd hP hsz _ X => ?_) h
  obtain ⟨L', e1, e2, e3⟩ := hP.store1 (i := j) (v := .int (x + Int32.ofInt cst)) (by omega) rfl
  exact ⟨L', e3, e2.trans hsz, fun t r => XS.iinc (g := mkF m pc L S) X.here hx rfl hd (hP.1 _ _ hl) e1 r⟩
/-- less is known of the locals -/
def psub : Pat → Pat → Prop
  | [], _ => True
  | none :: l, _ :: l' => psub l l'
  | some s :: l, y :: l' => y = some s ∧ psub l l'
  | none :: l, [] => psub l []
  | some _ :: _, [] => False
theorem psub_get : ∀ (P P' : Pat), psub P P' → ∀ i s, pget P i = some s → pget P' i = some s
  | [], _, _, i, s, h => by simp [pget] at h
  | none :: l, _ :: l', H, 0, s, h => by simp [pget] at h
  | none :: l, _ :: l', H, i + 1, s, h => psub_get l l' H i s h
  | some x :: l, y :: l', H, 0, s, h => by rw [show y = some x from H.1]; exact h
  | some x :: l, y :: l', H, i + 1, s, h => psub_get l l' H.2 i s h
  | none :: l, [], H, 0, s, h => by simp [pget] at h
  | none :: l, [], H, i + 1, s, h => by have := psub_get l [] H i s h; simp [pget] at this
  | some _ :: _, [], H, _, _, _ => H.elim
theorem Runs.weak (hP : psub P' P) (h : Runs C M k n pc P' S G Q) : Runs C M k n pc P S G Q := by
  intro hw p e s m args below meth c T locs L hx hby hml hret hnm hown hZ hf
  exact h hw p e s m args below meth c T locs L hx hby hml hret hnm hown hZ ⟨fun i s hi => hf.1 i s (psub_get _ _ hP i s hi), hf.2⟩
theorem Runs.swap {top : Nat} {x y : Nat × Nat × Rec} {H : List (Nat × Nat × Rec)} (h : Runs C M k n pc P S (top, y :: x :: H) Q) : Runs C M k n pc P S (top, x :: y :: H) Q := by
  intro hw p e s m args below meth c T locs L hx hby hml hret hnm hown hZ hf hsz X hR hF
  exact h hw p e s m args below meth c T locs L hx hby hml hret hnm hown hZ hf hsz X hR.swap hF
end Rules
/- the steps that touch the heap -/
section Made
variable {p : Program} {l : Launch} {e : Env} {R : Room} {s : State} {m : MethodId} {args : Array Value} {below : List Frame} {meth : Method} {c : Code} {T : State} {locs : List Loc} {cells slots : Nat} {Z : State} {a0 : Array Value}
theorem ext_push (h : Heap) (x : Cell) : Ext h (h.push x) := ⟨by simp, fun a c q => by rw [Array.getElem?_push_lt (Array.getElem?_eq_some_iff.mp q).1]; exact (Array.getElem?_eq_getElem _).symm.trans q⟩
/-- 'new', with the heap's size behind it -/
theorem new1 (X : Stand p l e R s m args below meth c T locs cells slots) (hx : p.tables.exec = Jvm.exec) (hZ : Z.Warmed39 s.vm) {own C : String} {index n : Nat} (hown : s.vm.findClass own = some m.cls) (w : (Jvm.Cond.classLink own index C).before a0 Z = true) (wi : (Jvm.Cond.instantiable C n).before a0 Z = true) (wz : (Jvm.Cond.initialized C).before a0 Z = true)
    {g : JFrame} (hg : g.method = m) (hd : decode c.code g.pc = .ok (.new index, 3)) (hc : cells + 1 ≤ R.cells) (hl : slots + n ≤ R.slots) :
    ∃ T', Stand p l e R s m args below meth c T' locs (cells + 1) (slots + n) ∧ T'.heap.size = T.heap.size + 1 ∧ Ext T.heap T'.heap ∧ Exa Z T'.heap T.heap.size C ∧ (∀ {O nm d : String} {ty : FieldType}, Laid Z a0 C O nm d → parseFieldDescriptor d = some ty → Fld Z T'.heap T.heap.size O nm d (defaultValue ty)) ∧
      ∀ target, Steps p.tables e below (T'.setTop { g with pc := g.pc + 3, stack := .ref T.heap.size :: g.stack }) target → Steps p.tables e below (T.setTop g) target := by
  obtain ⟨vm', cC, kC, h1, h2, h3, h4, X', st⟩ := X.newCold hx hown (mv hZ w) (mv hZ wi) (mv hZ wz) hg hd hc hl
  rw [hZ.alike.findClass] at h1
  obtain ⟨kZ, z1, -⟩ := Vm.findClass_spec h1
  obtain ⟨k', z2, z3⟩ := hZ.alike.2.2 _ _ z1
  have ek : kC.instanceTypes = kZ.instanceTypes := by rw [Option.some.inj (h2.symm.trans z2), z3]
  obtain ⟨cell, hcell⟩ : ∃ cell : Cell, cell = { cls := cC, slots := kC.instanceTypes.map defaultValue, vm := .none } := ⟨_, rfl⟩
  rw [← hcell] at X' st
  have hp : ((T.setVm vm').pushCell cell).heap = T.heap.push cell := rfl
  have at' : (T.heap.push cell)[T.heap.size]? = some cell := by simp
  refine ⟨_, X', by rw [hp]; simp, by rw [hp]; exact ext_push _ _, ?_, fun {O nm d ty} L ht => ?_, st⟩
  · rw [hp]; exact ⟨cell, kZ, at', by rw [hcell]; exact h1, by rw [hcell]; exact z1, by rw [hcell]; rfl, fun _ => by rw [hcell]; simp [ek]⟩
  · rw [hp]
    obtain ⟨c1, k1, cf, kf, i, f, a1, a2, a3, a4, a5, a6, -⟩ := L.spec
    cases h1.symm.trans a1
    cases z1.symm.trans a2
    refine ⟨cell, cf, kf, i, f, at', a3, a4, by rw [hcell]; simp, by rw [hcell]; rfl, by rw [hcell]; exact a5, ?_⟩
    rw [hcell]; simp [ek, a6, (State.fieldFound?_type a3 ht).2]
theorem newArr1 (X : Stand p l e R s m args below meth c T locs cells slots) (hx : p.tables.exec = Jvm.exec) (hZ : Z.Warmed39 s.vm) {aty : ArrayType} (w : (Jvm.Cond.arrayClass (newarray.typeOf aty)).before a0 Z = true) {g : JFrame} (hg : g.method = m) (hd : decode c.code g.pc = .ok (.newarray aty, 2)) {n : Int32} {rest : List Value} (hs : g.stack = .int n :: rest)
    (hn : ¬ n < 0) (hb : n.toNatClampNeg * 8 ≤ 536870912) (hc : cells + 1 ≤ R.cells) (hl : slots + n.toNatClampNeg ≤ R.slots) :
    ∃ T' cA, Stand p l e R s m args below meth c T' locs (cells + 1) (slots + n.toNatClampNeg) ∧ T'.heap.size = T.heap.size + 1 ∧ Ext T.heap T'.heap ∧ Arr Z T'.heap T.heap.size (newA cA (newarray.typeOf aty) n) (newarray.typeOf aty) ∧
      ∀ target, Steps p.tables e below (T'.setTop { g with pc := g.pc + 2, stack := .ref T.heap.size :: rest }) target → Steps p.tables e below (T.setTop g) target := by
  have hcb : componentBytes (newarray.typeOf aty) ≤ 8 := by cases aty <;> decide
  obtain ⟨cA, kA, comp, h1, h2, h3, X', st⟩ := X.newarrayPrim hx (mvA hZ w) hg hd hs hn (Nat.le_trans (Nat.mul_le_mul_left _ hcb) hb) hc hl
  rw [hZ.alike.findClass] at h1
  obtain ⟨kZ, z1, -⟩ := Vm.findClass_spec h1
  obtain ⟨k', z2, z3⟩ := hZ.alike.2.2 _ _ z1
  have ek : kA.kind = kZ.kind := by rw [Option.some.inj (h2.symm.trans z2), z3]
  have hp : (T.pushCell (newA cA (newarray.typeOf aty) n)).heap = T.heap.push (newA cA (newarray.typeOf aty) n) := rfl
  refine ⟨T.pushCell (newA cA (newarray.typeOf aty) n), cA, X', by rw [hp]; simp, by rw [hp]; exact ext_push _ _, ?_, st⟩
  rw [hp]
  exact ⟨by simp, ⟨by simp [newA], kZ, z1, comp, by rw [← ek]; exact h3⟩, by simp [newA]⟩
end Made
section Heap
variable {C : Ctx} {M : Bdy} {k n pc q : Nat} {P P' : Pat} {S S' : List Value} {G : AH} {Q : Option Value → AH → Prop} {top : Nat} {a : Nat} {qq j idx : Nat} {ob : Rec} {H : List (Nat × Nat × Rec)} {nm ds : String}
theorem Runs.getI (d : DAt M pc (.getfield idx) 3 q) (w : Jvm.Cond.fieldLink M.1.cls idx K.1 nm ds ∈ tables_1) (hk : K.2.1[j]? = some (nm, ds)) (h : Runs C M k n q P (.int (gI ob j) :: S) (top, (a, qq, ob) :: H) Q) : Runs C M k n pc P (.ref a :: S) (top, (a, qq, ob) :: H) Q := by
  intro hw p e s m args below meth c T locs L hx hby hml hret hnm hown hZ hf hsz X hR hF
  have hq := d.2
  subst hq
  obtain ⟨T1, X1, e1, st1⟩ := getF X hx hZ hown (host := "") (Or.inl (hw _ w)) Via.refl rfl (hR.objs.2.2.2.1 j _ hk) (g := mkF m pc L (.ref a :: S)) rfl rfl (hb hby d.1)
  obtain ⟨T', locs', k', n', r, G', g1, g2, g3, g4, g5, g6, g7, g8⟩ := h hw p e s m args below meth c T1 locs L hx hby hml hret hnm hown hZ hf hsz X1 (by rw [e1]; exact hR) hF
  exact ⟨T', locs', k', n', r, G', g1, g2, g3, g4, g5, g6, g7, fun fs hr => st1 _ (g8 fs hr)⟩
theorem Runs.getA {ty : FieldType} {len : Int32} (d : DAt M pc (.getfield idx) 3 q) (hk : K.2.2[j]? = some (nm, ty, len)) (w : Jvm.Cond.fieldLink M.1.cls idx K.1 nm (aD ty) ∈ tables_1) (hq : j < qq) (h : Runs C M k n q P (.ref (a + 1 + j) :: S) (top, (a, qq, ob) :: H) Q) : Runs C M k n pc P (.ref a :: S) (top, (a, qq, ob) :: H) Q := by
  intro hw p e s m args below meth c T locs L hx hby hml hret hnm hown hZ hf hsz X hR hF
  have hqq := d.2
  subst hqq
  obtain ⟨T1, X1, e1, st1⟩ := getF X hx hZ hown (host := "") (Or.inl (hw _ w)) Via.refl rfl (hR.objs.2.2.2.2.1 j _ hk hq).1 (g := mkF m pc L (.ref a :: S)) rfl rfl (hb hby d.1)
  obtain ⟨T', locs', k', n', r, G', g1, g2, g3, g4, g5, g6, g7, g8⟩ := h hw p e s m args below meth c T1 locs L hx hby hml hret hnm hown hZ hf hsz X1 (by rw [e1]; exact hR) hF
  exact ⟨T', locs', k', n', r, G', g1, g2, g3, g4, g5, g6, g7, fun fs hr => st1 _ (g8 fs hr)⟩
theorem lw_of {Z : State} {a0 : Array Value} {meth : Method} (hw : ∀ d ∈ tables_1, d.before a0 Z = true) {C O n d own : String} (h : Jvm.Cond.lays C O n d ∈ tables_1 ∨ Jvm.Cond.laysFinal C O n d ∈ tables_1) (hc : Jvm.Cond.lays C O n d ∈ tables_1 ∨ (own = O ∧ meth.name = "<init>")) : (Jvm.Cond.lays C O n d).before a0 Z = true ∨ ((Jvm.Cond.laysFinal C O n d).before a0 Z = true ∧ own = O ∧ meth.name = "<init>") := by
  rcases hc with hc | hc
  · exact Or.inl (hw _ hc)
  · exact h.imp (hw _) (fun u => ⟨hw _ u, hc⟩)
/-- a field that may be written here: not final, or in a constructor of its class -/
def Mine (M : Bdy) (nm ds : String) : Prop := Jvm.Cond.lays K.1 K.1 nm ds ∈ tables_1 ∨ (M.1.cls = K.1 ∧ M.1.name = "<init>")
theorem Runs.putI {x : Int32} (d : DAt M pc (.putfield idx) 3 q) (w : Jvm.Cond.fieldLink M.1.cls idx K.1 nm "I" ∈ tables_1) (hk : K.2.1[j]? = some (nm, "I")) (hm : Mine M nm "I") (h : Runs C M k n q P S (top, (a, qq, sI ob j x) :: H) Q) : Runs C M k n pc P (.int x :: .ref a :: S) (top, (a, qq, ob) :: H) Q := by
  intro hw p e s m args below meth c T locs L hx hby hml hret hnm hown hZ hf hsz X hR hF
  have hqq := d.2
  subst hqq
  obtain ⟨T1, h1, X1, e1, W1, st1⟩ := putF X hx hZ hown (host := "") (Or.inl (hw _ w)) Via.refl rfl (hR.objs.2.2.2.1 j _ hk) hR.objs.2.2.1 (lw_of hw ((All.mem kS (List.mem_of_getElem? hk)).1) (hm.imp id (fun u => ⟨u.1, hnm.trans u.2⟩))) (hw _ kI) (ty := .int) (by decide) rfl rfl (g := mkF m pc L (.int x :: .ref a :: S)) rfl rfl (hb hby d.1)
  obtain ⟨T', locs', k', n', r, G', g1, g2, g3, g4, g5, g6, g7, g8⟩ := h hw p e s m args below meth c T1 _ L hx hby hml hret hnm hown hZ hf hsz X1 (by rw [e1]; exact hR.putI hw hk W1) (Fr.snoc X1 hF hR.objs.1)
  exact ⟨T', locs', k', n', r, G', g1, g2, g3, g4, g5, g6, g7, fun fs hr => st1 _ (g8 fs hr)⟩
theorem Runs.putZ {x y : Int32} (d : DAt M pc (.putfield idx) 3 q) (w : Jvm.Cond.fieldLink M.1.cls idx K.1 nm "Z" ∈ tables_1) (hk : K.2.1[j]? = some (nm, "Z")) (hm : Mine M nm "Z") (hy : nar .boolean x = y) (h : Runs C M k n q P S (top, (a, qq, sI ob j y) :: H) Q) : Runs C M k n pc P (.int x :: .ref a :: S) (top, (a, qq, ob) :: H) Q := by
  subst hy
  intro hw p e s m args below meth c T locs L hx hby hml hret hnm hown hZ hf hsz X hR hF
  have hqq := d.2
  subst hqq
  obtain ⟨T1, h1, X1, e1, W1, st1⟩ := putFN X hx hZ hown (hw _ w) Via.refl rfl (hR.objs.2.2.2.1 j _ hk) hR.objs.2.2.1 (lw_of hw ((All.mem kS (List.mem_of_getElem? hk)).1) (hm.imp id (fun u => ⟨u.1, hnm.trans u.2⟩))) (hw _ kI) (ty := .boolean) (v' := .int (nar .boolean x)) (by decide) rfl (fits_nar_bool _) (g := mkF m pc L (.int x :: .ref a :: S)) rfl rfl (hb hby d.1)
  obtain ⟨T', locs', k', n', r, G', g1, g2, g3, g4, g5, g6, g7, g8⟩ := h hw p e s m args below meth c T1 _ L hx hby hml hret hnm hown hZ hf hsz X1 (by rw [e1]; exact hR.putI hw hk W1) (Fr.snoc X1 hF hR.objs.1)
  exact ⟨T', locs', k', n', r, G', g1, g2, g3, g4, g5, g6, g7, fun fs hr => st1 _ (g8 fs hr)⟩
theorem Runs.ialoadA {i len : Int32} (d : DAt M pc .iaload 1 q) (hk : K.2.2[j]? = some (nm, .int, len)) (hq : j < qq) (hi : ¬ i < 0 ∧ i < len) (h : Runs C M k n q P (.int (gA ob j i) :: S) (top, (a, qq, ob) :: H) Q) : Runs C M k n pc P (.int i :: .ref (a + 1 + j) :: S) (top, (a, qq, ob) :: H) Q := by
  have hqq := d.2
  subst hqq
  refine Runs.pure d (fun p e s m args below meth c T locs L hw hx hown hZ hd hP hsz hR X => ⟨L, hP, hsz, fun t r => ?_⟩) h
  obtain ⟨cl, A, Sz, V⟩ := (hR.objs.2.2.2.2.1 j _ hk hq).2
  exact X.iaload hx (j := i) (v := .int (gA ob j i)) A.1 (State.isArrayOf_alike hZ.alike A.2.1) A.2.2 (inb_of Sz hi) (V i hi.1 hi.2) (g := mkF m pc L (.int i :: .ref (a + 1 + j) :: S)) rfl rfl hd _ r
theorem Runs.baloadA {i len : Int32} (d : DAt M pc .baload 1 q) (hk : K.2.2[j]? = some (nm, .boolean, len)) (hq : j < qq) (hi : ¬ i < 0 ∧ i < len) (h : Runs C M k n q P (.int (gA ob j i) :: S) (top, (a, qq, ob) :: H) Q) : Runs C M k n pc P (.int i :: .ref (a + 1 + j) :: S) (top, (a, qq, ob) :: H) Q := by
  have hqq := d.2
  subst hqq
  refine Runs.pure d (fun p e s m args below meth c T locs L hw hx hown hZ hd hP hsz hR X => ⟨L, hP, hsz, fun t r => ?_⟩) h
  obtain ⟨cl, A, Sz, V⟩ := (hR.objs.2.2.2.2.1 j _ hk hq).2
  exact X.baloadBooleans hx (j := i) (v := .int (gA ob j i)) A.1 (State.isArrayOf_alike hZ.alike A.2.1) A.2.2 (inb_of Sz hi) (V i hi.1 hi.2) (g := mkF m pc L (.int i :: .ref (a + 1 + j) :: S)) rfl rfl hd _ r
theorem Runs.laloadA {i len : Int32} (d : DAt M pc .laload 1 q) (hk : K.2.2[j]? = some (nm, .long, len)) (hq : j < qq) (hi : ¬ i < 0 ∧ i < len) (h : Runs C M k n q P (.long (gJ ob j i) :: S) (top, (a, qq, ob) :: H) Q) : Runs C M k n pc P (.int i :: .ref (a + 1 + j) :: S) (top, (a, qq, ob) :: H) Q := by
  have hqq := d.2
  subst hqq
  refine Runs.pure d (fun p e s m args below meth c T locs L hw hx hown hZ hd hP hsz hR X => ⟨L, hP, hsz, fun t r => ?_⟩) h
  obtain ⟨cl, A, Sz, V⟩ := (hR.objs.2.2.2.2.1 j _ hk hq).2
  exact X.laload hx (j := i) (v := .long (gJ ob j i)) A.1 (State.isArrayOf_alike hZ.alike A.2.1) A.2.2 (inb_of Sz hi) (V i hi.1 hi.2) (g := mkF m pc L (.int i :: .ref (a + 1 + j) :: S)) rfl rfl hd _ r
theorem Runs.iastoreA {i x len : Int32} (d : DAt M pc .iastore 1 q) (hk : K.2.2[j]? = some (nm, .int, len)) (hq : j < qq) (hi : ¬ i < 0 ∧ i < len) (h : Runs C M k n q P S (top, (a, qq, sA ob j i x) :: H) Q) : Runs C M k n pc P (.int x :: .int i :: .ref (a + 1 + j) :: S) (top, (a, qq, ob) :: H) Q := by
  intro hw p e s m args below meth c T locs L hx hby hml hret hnm hown hZ hf hsz X hR hF
  have hqq := d.2
  subst hqq
  obtain ⟨cl, A, Sz, V⟩ := (hR.objs.2.2.2.2.1 j _ hk hq).2
  obtain ⟨T1, h1, X1, e1, W1, st1⟩ := stI X hx hZ rfl A (j := i) (x := x) (inb_of Sz hi) (g := mkF m pc L (.int x :: .int i :: .ref (a + 1 + j) :: S)) rfl rfl (hb hby d.1)
  obtain ⟨T', locs', k', n', r, G', g1, g2, g3, g4, g5, g6, g7, g8⟩ := h hw p e s m args below meth c T1 _ L hx hby hml hret hnm hown hZ hf hsz X1 (by rw [e1]; exact hR.putA hk hq (by simp) hi W1) (Fr.snoc X1 hF (by have := hR.objs.1; omega))
  exact ⟨T', locs', k', n', r, G', g1, g2, g3, g4, g5, g6, g7, fun fs hr => st1 _ (g8 fs hr)⟩
theorem Runs.bastoreA {i x len : Int32} (d : DAt M pc .bastore 1 q) (hk : K.2.2[j]? = some (nm, .boolean, len)) (hq : j < qq) (hi : ¬ i < 0 ∧ i < len) {y : Int32} (hy : nar .boolean x = y) (h : Runs C M k n q P S (top, (a, qq, sA ob j i y) :: H) Q) : Runs C M k n pc P (.int x :: .int i :: .ref (a + 1 + j) :: S) (top, (a, qq, ob) :: H) Q := by
  subst hy
  intro hw p e s m args below meth c T locs L hx hby hml hret hnm hown hZ hf hsz X hR hF
  have hqq := d.2
  subst hqq
  obtain ⟨cl, A, Sz, V⟩ := (hR.objs.2.2.2.2.1 j _ hk hq).2
  obtain ⟨T1, h1, X1, e1, W1, st1⟩ := stZ X hx hZ rfl A (j := i) (x := x) (inb_of Sz hi) (g := mkF m pc L (.int x :: .int i :: .ref (a + 1 + j) :: S)) rfl rfl (hb hby d.1)
  obtain ⟨T', locs', k', n', r, G', g1, g2, g3, g4, g5, g6, g7, g8⟩ := h hw p e s m args below meth c T1 _ L hx hby hml hret hnm hown hZ hf hsz X1 (by rw [e1]; exact hR.putA hk hq (by simp) hi W1) (Fr.snoc X1 hF (by have := hR.objs.1; omega))
  exact ⟨T', locs', k', n', r, G', g1, g2, g3, g4, g5, g6, g7, fun fs hr => st1 _ (g8 fs hr)⟩
theorem Runs.lastoreA {i len : Int32} {x : Int64} (d : DAt M pc .lastore 1 q) (hk : K.2.2[j]? = some (nm, .long, len)) (hq : j < qq) (hi : ¬ i < 0 ∧ i < len) (h : Runs C M k n q P S (top, (a, qq, sJ ob j i x) :: H) Q) : Runs C M k n pc P (.long x :: .int i :: .ref (a + 1 + j) :: S) (top, (a, qq, ob) :: H) Q := by
  intro hw p e s m args below meth c T locs L hx hby hml hret hnm hown hZ hf hsz X hR hF
  have hqq := d.2
  subst hqq
  obtain ⟨cl, A, Sz, V⟩ := (hR.objs.2.2.2.2.1 j _ hk hq).2
  obtain ⟨T1, h1, X1, e1, W1, st1⟩ := stJ X hx hZ rfl A (j := i) (x := x) (inb_of Sz hi) (g := mkF m pc L (.long x :: .int i :: .ref (a + 1 + j) :: S)) rfl rfl (hb hby d.1)
  obtain ⟨T', locs', k', n', r, G', g1, g2, g3, g4, g5, g6, g7, g8⟩ := h hw p e s m args below meth c T1 _ L hx hby hml hret hnm hown hZ hf hsz X1 (by rw [e1]; exact hR.putJ hk hq rfl hi W1) (Fr.snoc X1 hF (by have := hR.objs.1; omega))
  exact ⟨T', locs', k', n', r, G', g1, g2, g3, g4, g5, g6, g7, fun fs hr => st1 _ (g8 fs hr)⟩
/-- the script: an array that stood before the law began -/
def ScrF (C : Ctx) (sa : Nat) (z : Int32) (f : Int32 → Int32) : Prop := ∃ cl : Cell, Scr C.2.1 C.2.1.heap sa cl z ∧ f = atv cl
theorem Runs.lenS {sa : Nat} {z : Int32} {f : Int32 → Int32} (hs : ScrF C sa z f) (d : DAt M pc .arraylength 1 q) (h : Runs C M k n q P (.int z :: S) G Q) : Runs C M k n pc P (.ref sa :: S) G Q := by
  have hqq := d.2
  subst hqq
  refine Runs.pure d (fun p e s m args below meth c T locs L hw hx hown hZ hd hP hsz hR X => ⟨L, hP, hsz, fun t r => ?_⟩) h
  obtain ⟨cl, F, -⟩ := hs
  obtain ⟨A, Sz, N, V⟩ := F.ext hR.2.1.2
  exact X.arraylength hx A.1 (State.isArrayOf_alike hZ.alike A.2.1) (g := mkF m pc L (.ref sa :: S)) rfl rfl hd _ (by rw [len_of Sz N]; exact r)
theorem Runs.ialoadS {sa : Nat} {z i : Int32} {f : Int32 → Int32} (hs : ScrF C sa z f) (d : DAt M pc .iaload 1 q) (hi : ¬ i < 0 ∧ i < z) (h : Runs C M k n q P (.int (f i) :: S) G Q) : Runs C M k n pc P (.int i :: .ref sa :: S) G Q := by
  have hqq := d.2
  subst hqq
  refine Runs.pure d (fun p e s m args below meth c T locs L hw hx hown hZ hd hP hsz hR X => ⟨L, hP, hsz, fun t r => ?_⟩) h
  obtain ⟨cl, F, rfl⟩ := hs
  obtain ⟨A, Sz, N, V⟩ := F.ext hR.2.1.2
  exact X.iaload hx (j := i) (v := .int (atv cl i)) A.1 (State.isArrayOf_alike hZ.alike A.2.1) A.2.2 (inb_of Sz hi) (V i (inb_of Sz hi)) (g := mkF m pc L (.int i :: .ref sa :: S)) rfl rfl hd _ r
/- leaving -/
theorem Runs.retI {v : Int32} (d : DAt M pc .ireturn 1 q) (hret : M.2.2.2.1 = some .int) (hk : k ≤ M.2.2.2.2.cells ∧ n ≤ M.2.2.2.2.slots) (hQ : Q (some (.int v)) G) : Runs C M k n pc P (.int v :: S) G Q := by
  intro hw p e s m args below meth c T locs L hx hby hml hr0 hnm hown hZ hf hsz X hR hF
  exact ⟨T, locs, k, n, _, G, X, hk.1, hk.2, hR, hF, hQ, (fun u => by rw [hret] at u; cases u), fun fs hr => Jvm.RoadKit.retI X hx (hr0.trans hret) (hb hby d.1) hr⟩
theorem Runs.retZ {v : Int32} (d : DAt M pc .ireturn 1 q) (hret : M.2.2.2.1 = some .boolean) (hk : k ≤ M.2.2.2.2.cells ∧ n ≤ M.2.2.2.2.slots) {y : Int32} (hy : nar .boolean v = y) (hQ : Q (some (.int y)) G) : Runs C M k n pc P (.int v :: S) G Q := by
  subst hy
  intro hw p e s m args below meth c T locs L hx hby hml hr0 hnm hown hZ hf hsz X hR hF
  exact ⟨T, locs, k, n, _, G, X, hk.1, hk.2, hR, hF, hQ, (fun u => by rw [hret] at u; cases u), fun fs hr => retN X hx (t := .boolean) (hr0.trans hret) (by simp) (hb hby d.1) hr⟩
theorem Runs.retJ {v : Int64} (d : DAt M pc .lreturn 1 q) (hret : M.2.2.2.1 = some .long) (hk : k ≤ M.2.2.2.2.cells ∧ n ≤ M.2.2.2.2.slots) (hQ : Q (some (.long v)) G) : Runs C M k n pc P (.long v :: []) G Q := by
  intro hw p e s m args below meth c T locs L hx hby hml hr0 hnm hown hZ hf hsz X hR hF
  exact ⟨T, locs, k, n, _, G, X, hk.1, hk.2, hR, hF, hQ, (fun u => by rw [hret] at u; cases u), fun fs hr => X.lreturnOut hx (hr0.trans hret) (hb hby d.1) hr⟩
theorem Runs.retV (d : DAt M pc .return_ 1 q) (hret : M.2.2.2.1 = none) (hk : k ≤ M.2.2.2.2.cells ∧ n ≤ M.2.2.2.2.slots) (hQ : Q none G) : Runs C M k n pc P [] G Q := by
  intro hw p e s m args below meth c T locs L hx hby hml hr0 hnm hown hZ hf hsz X hR hF
  exact ⟨T, locs, k, n, _, G, X, hk.1, hk.2, hR, hF, hQ, (fun _ => rfl), fun fs hr => X.returnOut hx (hr0.trans hret) (hb hby d.1) hr⟩
/- a new object, and the arrays that its constructor makes -/
theorem Runs.newK (d : DAt M pc (.new idx) 3 q) (w : Jvm.Cond.classLink M.1.cls idx K.1 ∈ tables_1) (hc : k + 1 ≤ M.2.2.2.2.cells ∧ n + kN ≤ M.2.2.2.2.slots) {k' n' : Nat} (hk' : k + 1 = k') (hn' : n + kN = n') {H : List (Nat × Nat × Rec)} (hd : ∀ x ∈ H, x.1 + x.2.1 < top) (h : Runs C M k' n' q P (.ref top :: S) (top + 1, (top, 0, zrec) :: H) Q) : Runs C M k n pc P S (top, H) Q := by
  subst hk' hn'
  intro hw p e s m args below meth c T locs L hx hby hml hr0 hnm hown hZ hf hsz X hR hF
  have hqq := d.2
  subst hqq
  obtain ⟨T2, X2, s2, E2, A2, D2, st2⟩ := new1 X hx hZ hown (hw _ w) (hw _ kI) (hw _ kZ) (g := mkF m pc L S) rfl (hb hby d.1) hc.1 hc.2
  have hs : T.heap.size = top := hR.1
  rw [hs] at A2 D2 st2 s2
  have hR2 : Rep C.2.1 C.2.2.1 T2.heap (top + 1, (top, 0, zrec) :: H) := by
    refine ⟨s2, hR.2.1.ext E2, fun x hx' => ?_, ?_⟩
    · rcases List.mem_cons.mp hx' with rfl | hx'
      · refine ⟨?_, by simp, A2, fun k nd hk => ?_, fun k t hk hq => by simp at hq, fun k t hk hq => ?_⟩
        · have := hR.2.1.2.1; rw [hR.2.1.1] at this; simp only; omega
        · rcases (All.mem kS (List.mem_of_getElem? hk)).2 with e | e
          · have := D2 (laidS hw hk) (ty := .int) (by rw [e]; decide); exact this
          · have := D2 (laidS hw hk) (ty := .boolean) (by rw [e]; decide); exact this
        · have := D2 (laidA hw hk) (pfA hk); exact this
      · obtain ⟨p1, p2, p3⟩ := hR.2.2.1 x hx'
        exact ⟨p1, by simp only at p2 ⊢; omega, p3.ext E2⟩
    · exact List.pairwise_cons.mpr ⟨fun y hy => Or.inr (hd y hy), hR.2.2.2⟩
  obtain ⟨T', locs', k', n', r, G', g1, g2, g3, g4, g5, g6, g7, g8⟩ := h hw p e s m args below meth c T2 _ L hx hby hml hr0 hnm hown hZ hf hsz X2 hR2 hF
  exact ⟨T', locs', k', n', r, G', g1, g2, g3, g4, g5, g6, g7, fun fs hr => st2 _ (g8 fs hr)⟩
/-- newarray and the putfield behind it: the next array of an object that is being made -/
theorem Runs.newArr {aty : ArrayType} {ty : FieldType} {len : Int32} {q1 : Nat} (d : DAt M pc (.newarray aty) 2 q1) (d' : DAt M q1 (.putfield idx) 3 q) (hk : K.2.2[j]? = some (nm, ty, len)) (w : Jvm.Cond.fieldLink M.1.cls idx K.1 nm (aD ty) ∈ tables_1) (ht : newarray.typeOf aty = ty) (wa : Jvm.Cond.arrayClass ty ∈ tables_1) (hm : Mine M nm (aD ty))
    (htop : top = a + 1 + j) (hlen : ¬ len < 0 ∧ len.toNatClampNeg * 8 ≤ 536870912) (hc : k + 1 ≤ M.2.2.2.2.cells ∧ n + len.toNatClampNeg ≤ M.2.2.2.2.slots) (hz : (∀ i, ob.2.1 j i = 0) ∧ (∀ i, ob.2.2 j i = 0)) {j' top' k' n' : Nat} (hj' : j + 1 = j') (ht' : top + 1 = top') (hk' : k + 1 = k') (hn' : n + len.toNatClampNeg = n')
    (h : Runs C M k' n' q P S (top', (a, j', ob) :: H) Q) : Runs C M k n pc P (.int len :: .ref a :: S) (top, (a, j, ob) :: H) Q := by
  subst hj' ht' hk' hn'
  intro hw p e s m args below meth c T locs L hx hby hml hr0 hnm hown hZ hf hsz X hR hF
  have hqq := d.2
  have hqq' := d'.2
  subst hqq hqq' ht
  obtain ⟨T1, cA, X1, s1, E1, A1, st1⟩ := newArr1 X hx hZ (hw _ wa) (g := mkF m pc L (.int len :: .ref a :: S)) rfl (hb hby d.1) rfl hlen.1 hlen.2 hc.1 hc.2
  have hs : T.heap.size = top := hR.1
  rw [hs] at A1 st1 s1
  have O1 := hR.objs.2.2.ext E1
  obtain ⟨T2, h2, X2, e2, W2, st2⟩ := putF X1 hx hZ hown (host := "") (Or.inl (hw _ w)) Via.refl rfl (O1.2.2.2 j _ hk (Nat.le_refl _)) O1.1 (lw_of hw ((All.mem kA (List.mem_of_getElem? hk)).1) (hm.imp id (fun u => ⟨u.1, hnm.trans u.2⟩))) (hw _ kI) (ty := .array (newarray.typeOf aty)) (pfA hk) rfl rfl (g := mkF m (pc + 2) L (.ref top :: .ref a :: S)) rfl rfl (hb hby d'.1)
  have hts : (newarray.typeOf aty = .int ∨ newarray.typeOf aty = .boolean ∨ newarray.typeOf aty = .long) := (All.mem kA (List.mem_of_getElem? hk)).2.1
  have hA := arr_new A1 hts hz
  have hR2 : Rep C.2.1 C.2.2.1 T2.heap (top + 1, (a, j + 1, ob) :: H) := by rw [e2]; exact hR.addA hw E1 s1 htop hk hA W2
  obtain ⟨T', locs', k', n', r, G', g1, g2, g3, g4, g5, g6, g7, g8⟩ := h hw p e s m args below meth c T2 _ L hx hby hml hr0 hnm hown hZ hf hsz X2 hR2 (Fr.snoc X2 hF hR.objs.1)
  exact ⟨T', locs', k', n', r, G', g1, g2, g3, g4, g5, g6, g7, fun fs hr => st1 _ (st2 _ (g8 fs hr))⟩
theorem Runs.initO {W : Nat} (d : DAt M pc (.invokespecial idx) 3 q) (w1 : Jvm.Cond.methodLink M.1.cls idx Lib.objectInit ∈ tables_1) (w2 : Jvm.Cond.instanceMethod Lib.objectInit ∈ tables_1) (w3 : Jvm.Cond.code Lib.objectInit ⟨#[0xb1]⟩ 1 none ∈ tables_1) (hW : (S.map fun v => v.category).sum = W) (hc : 1 ≤ M.2.2.2.2.frames ∧ W + 12 ≤ M.2.2.2.2.locals) (h : Runs C M k n q P S G Q) : Runs C M k n pc P (.ref a :: S) G Q := by
  intro hw p e s m args below meth c T locs L hx hby hml hr0 hnm hown hZ hf hsz X hR hF
  have hqq := d.2
  subst hqq
  obtain ⟨T1, X1, e1, st1⟩ := Jvm.RoadKit.initO X hx hZ hown (hw _ w1) (hw _ w2) (hw _ w3) rfl (g := mkF m pc L (.ref a :: S)) rfl (by rw [hml]; exact hsz) rfl (hb hby d.1) hc.1 (W := W) (by show 2 * 0 + _ ≤ _; omega) hc.2
  obtain ⟨T', locs', k', n', r, G', g1, g2, g3, g4, g5, g6, g7, g8⟩ := h hw p e s m args below meth c T1 _ L hx hby hml hr0 hnm hown hZ hf hsz X1 (by rw [e1]; exact hR) hF
  exact ⟨T', locs', k', n', r, G', g1, g2, g3, g4, g5, g6, g7, fun fs hr => st1 _ (g8 fs hr)⟩
end Heap
/- a body's contract, and the calls that are paid by one -/
def Pays (C : Ctx) (N : Bdy) (as : List Value) (G : AH) (Q : Option Value → AH → Prop) : Prop :=
  Ok C → ∀ h0 : Heap, Rep C.2.1 C.2.2.1 h0 G → ∀ ws : List Jvm.Cond, MetFree C.1 N.1 (head1 (Jvm.Cond.code N.1 N.2.1 N.2.2.1 N.2.2.2.1 :: ws) N.2.2.2.2) (fun a U => a = as.toArray ∧ C.2.1.Warmed39 U.vm ∧ U.heap = h0) (fun _ _ _ _ _ => True)
    (fun _ U o U' => ∃ v L, o = .returned v ∧ (Fr C.2.2.1 L ∧ ∃ G', Rep C.2.1 C.2.2.1 U'.heap G' ∧ Q v G') ∧ FrameEnd U o U' L N.2.2.2.2.cells N.2.2.2.2.slots)
def lay : List Value → List Slot
  | [] => []
  | v :: l => if v.category = 2 then .val v :: .second :: lay l else .val v :: lay l
theorem lay_foldl (l : List Value) : ∀ acc : Array Slot, (l.foldl (fun acc v => if v.category = 2 then (acc.push (.val v)).push .second else acc.push (.val v)) acc).toList = acc.toList ++ lay l := by
  induction l with
  | nil => intro acc; simp [lay]
  | cons v l ih =>
    intro acc
    rw [List.foldl_cons, ih]
    by_cases h : v.category = 2 <;> simp [lay, h]
theorem args_lay (as : List Value) (ml : Nat) : argsToLocals as.toArray ml = (lay as ++ List.replicate (ml - (lay as).length) Slot.unset).toArray := by
  have h := lay_foldl as #[]
  apply Array.ext'
  simp only [argsToLocals, Array.toList_append, List.toList_toArray] at *
  rw [show (as.toArray.foldl (init := #[]) fun acc v => if v.category = 2 then (acc.push (Slot.val v)).push .second else acc.push (.val v)).toList = lay as by simpa using h]
  congr 1
  rw [← Array.length_toList, show (as.toArray.foldl (init := #[]) fun acc v => if v.category = 2 then (acc.push (Slot.val v)).push .second else acc.push (.val v)).toList = lay as by simpa using h]
  simp
def WFL (l : List Slot) : Prop := (∀ i : Nat, l[i]? = some .second → ∃ (j : Nat) (v : Value), i = j + 1 ∧ l[j]? = some (.val v) ∧ v.category = 2) ∧ (∀ (i : Nat) (v : Value), l[i]? = some (.val v) → v.category = 2 → l[i + 1]? = some .second)
theorem WFL.unset (n : Nat) : WFL (List.replicate n Slot.unset) := by
  refine ⟨fun i h => ?_, fun i v h => ?_⟩ <;> (rw [List.getElem?_replicate] at h; split at h <;> cases h)
theorem WFL.one {l : List Slot} {v : Value} (h : WFL l) (hv : v.category ≠ 2) : WFL (.val v :: l) := by
  refine ⟨fun i hi => ?_, fun i w hi hw => ?_⟩
  · cases i with
    | zero => simp at hi
    | succ i =>
      obtain ⟨j, w, e1, e2, e3⟩ := h.1 i (by simpa using hi)
      exact ⟨j + 1, w, by omega, by simpa using e2, e3⟩
  · cases i with
    | zero => simp at hi; subst hi; exact absurd hw hv
    | succ i => have := h.2 i w (by simpa using hi) hw; simpa using this
theorem WFL.two {l : List Slot} {v : Value} (h : WFL l) (hv : v.category = 2) : WFL (.val v :: .second :: l) := by
  refine ⟨fun i hi => ?_, fun i w hi hw => ?_⟩
  · match i, hi with
    | 0, hi => simp at hi
    | 1, hi => exact ⟨0, v, rfl, by simp, hv⟩
    | i + 2, hi =>
      obtain ⟨j, w, e1, e2, e3⟩ := h.1 i (by simpa using hi)
      exact ⟨j + 2, w, by omega, by simpa using e2, e3⟩
  · match i, hi with
    | 0, hi => simp
    | 1, hi => simp at hi
    | i + 2, hi => have := h.2 i w (by simpa using hi) hw; simpa using this
theorem WFL.lay (as : List Value) (n : Nat) : WFL (lay as ++ List.replicate n Slot.unset) := by
  induction as with
  | nil => exact WFL.unset n
  | cons v l ih =>
    by_cases h : v.category = 2
    · simpa [Jvm.Pilot.@@N@@.lay, h] using ih.two h
    · simpa [Jvm.Pilot.@@N@@.lay, h] using ih.one h
def pforget : List Bool → Pat → Pat
  | [], _ => []
  | _, [] => []
  | true :: ms, x :: l => x :: pforget ms l
  | false :: ms, _ :: l => none :: pforget ms l
theorem pforget_get : ∀ (ms : List Bool) (P : Pat) (i : Nat) (s : Slot), pget (pforget ms P) i = some s → pget P i = some s
  | [], _, i, s, h => by simp [pforget, pget] at h
  | _ :: _, [], i, s, h => by simp [pforget, pget] at h
  | true :: ms, x :: l, 0, s, h => h
  | true :: ms, x :: l, i + 1, s, h => pforget_get ms l i s h
  | false :: ms, x :: l, 0, s, h => by simp [pforget, pget] at h
  | false :: ms, x :: l, i + 1, s, h => pforget_get ms l i s h
section Calls
variable {C : Ctx} {M N : Bdy} {k n pc q : Nat} {P P' : Pat} {S S' : List Value} {G G1 : AH} {Q : Option Value → AH → Prop} {top : Nat} {a : Nat} {qq j idx W : Nat} {ob : Rec} {H : List (Nat × Nat × Rec)} {as : List Value}
theorem Runs.forget (ms : List Bool) (hP : pforget ms P = P') (h : Runs C M k n pc P' S G Q) : Runs C M k n pc P S G Q := by
  intro hw p e s m args below meth c T locs L hx hby hml hret hnm hown hZ hf
  subst hP
  exact h hw p e s m args below meth c T locs L hx hby hml hret hnm hown hZ ⟨fun i s hi => hf.1 i s (pforget_get _ _ i s hi), hf.2⟩
theorem Pays.of (hpl : plainName N.1.cls = true) (hml : (lay as).length ≤ N.2.2.1) (x : Nat) (hP : (lay as).map some ++ List.replicate x none = P) (h : Runs C N 0 0 0 P [] G Q) : Pays C N as G Q := by
  intro hw h0 hR ws
  refine MetFree.of_bodySF (plainFor_of_name hpl) hisR ?_
  intro p e s m args below meth c s₁ Bd hml0 hp hK
  obtain ⟨rfl, hZ, hh⟩ := hp
  have X0 : Stand p C.1 e N.2.2.2.2 s m as.toArray below meth c s₁ [] 0 0 := Stand.of_body Bd
  have e0 : s₁.heap = h0 := by rw [← hh, Bd.state]; rfl
  obtain ⟨L, hL⟩ : ∃ L : Array Slot, L = (lay as ++ List.replicate (N.2.2.1 - (lay as).length) Slot.unset).toArray := ⟨_, rfl⟩
  have hfit : Fits P L := by
    subst hP hL
    refine ⟨fun i s hi => ?_, ?_⟩
    · rw [pget_eq] at hi
      cases hq : (lay as)[i]? with
      | none =>
        rw [List.getElem?_append_right (by simpa using hq), List.getElem?_replicate] at hi
        split at hi <;> simp at hi
      | some y =>
        have hlt := (List.getElem?_eq_some_iff.mp hq).1
        rw [List.getElem?_append_left (by simpa using hlt), List.getElem?_map, hq] at hi
        have this : y = s := by simpa using hi
        simp only [List.getElem?_toArray]
        rw [List.getElem?_append_left hlt, hq, this]
    · have := WFL.lay as (N.2.2.1 - (lay as).length)
      refine ⟨fun i hi => ?_, fun i v hi hv => ?_⟩
      · rw [List.getElem?_toArray] at hi
        obtain ⟨j, v, e1, e2, e3⟩ := this.1 i hi
        exact ⟨j, v, e1, by rw [List.getElem?_toArray]; exact e2, e3⟩
      · rw [List.getElem?_toArray] at hi ⊢
        exact this.2 i v hi hv
  obtain ⟨T', locs', k', n', r, G', g1, g2, g3, g4, g5, g6, g7, g8⟩ := h hw p e s m as.toArray below meth c s₁ [] L Bd.exec Bd.bytes hml0 Bd.returns (name_of_methodNamed Bd.named Bd.method).1 (findClass_of_methodNamed Bd.named) hZ hfit (by rw [hL]; simp; omega) X0 (by rw [e0]; exact hR) (Fr.nil _)
  obtain ⟨fs, hr, hrun, hended, hW, hsame⟩ := g1.leave (v := r) (fun u => g7 (by rw [← Bd.returns]; exact u))
  refine ⟨_, _, ?_, hrun, hended, _, _, rfl, ⟨g5, G', ?_, g6⟩, ⟨_, rfl⟩, hW, hsame.mono g2 g3⟩
  · have ef : entryFrame m as.toArray N.2.2.1 = mkF m 0 L [] := by
      rw [hL, ← args_lay]; rfl
    rw [ef]; exact g8 fs hr
  · exact g4
abbrev room_al (M N : Bdy) (W k n : Nat) : Prop := N.2.2.2.2.frames + 1 ≤ M.2.2.2.2.frames ∧ W + (N.2.2.1 + 11) + N.2.2.2.2.locals ≤ M.2.2.2.2.locals ∧ k + N.2.2.2.2.cells ≤ M.2.2.2.2.cells ∧ n + N.2.2.2.2.slots ≤ M.2.2.2.2.slots
abbrev room_ok (M N : Bdy) (W : Nat) : Prop := N.2.2.2.2.frames + 1 ≤ M.2.2.2.2.frames ∧ W + (N.2.2.1 + 11) + N.2.2.2.2.locals ≤ M.2.2.2.2.locals ∧ N.2.2.2.2.cells = 0 ∧ N.2.2.2.2.slots = 0
abbrev full_ok (M : Bdy) (k n : Nat) : Prop := k ≤ M.2.2.2.2.cells ∧ n ≤ M.2.2.2.2.slots
theorem room_ok.al (h : room_ok M N W) (f : full_ok M k n) : room_al M N W k n := ⟨h.1, h.2.1, by rw [h.2.2.1]; exact f.1, by rw [h.2.2.2]; exact f.2⟩
abbrev code_w (N : Bdy) : Prop := Jvm.Cond.code N.1 N.2.1 N.2.2.1 N.2.2.2.1 ∈ tables_1 ∧ Jvm.Cond.initialized N.1.cls ∈ tables_1 ∧ (N.1.cls ≠ "java/lang/invoke/MethodHandle" ∧ N.1.cls ≠ "java/lang/invoke/VarHandle")
def arity (N : Bdy) (na : Nat) : Prop := ∃ ps r, parseMethodDescriptor N.1.desc = some ⟨ps, r⟩ ∧ na = ps.length
theorem arity.len {na : Nat} (h : arity N na) (e : as.length = na) : ∀ sig, parseMethodDescriptor N.1.desc = some sig → as.length = sig.parameters.length := by
  obtain ⟨ps, r, h1, h2⟩ := h
  exact lenOf h1 (e.trans h2)
theorem after_call {v : Option Value} {p : Program} {e : Env} {s : State} {m : MethodId} {args : Array Value} {below : List Frame} {meth : Method} {c : Code} {T T0 : State} {locs : List Loc} {L : Array Slot} {QN : Option Value → AH → Prop} {Lc : List Loc}
    (hw : Ok C) (hx : p.tables.exec = Jvm.exec) (hby : c.code = M.2.1) (hml : c.maxLocals = M.2.2.1) (hret : meth.sig.returnType = M.2.2.2.1) (hnm : meth.name = M.1.name) (hown : s.vm.findClass M.1.cls = some m.cls) (hZ : C.2.1.Warmed39 s.vm) (hf : Fits P L) (hsz : L.size = M.2.2.1) (hF : Fr C.2.2.1 locs)
    (X : Stand p C.1 e M.2.2.2.2 s m args below meth c T (locs ++ Lc) (k + N.2.2.2.2.cells) (n + N.2.2.2.2.slots)) (hQ : Fr C.2.2.1 Lc ∧ ∃ G', Rep C.2.1 C.2.2.1 T.heap G' ∧ QN v G')
    (h : ∀ v G', QN v G' → Runs C M (k + N.2.2.2.2.cells) (n + N.2.2.2.2.slots) (pc + 3) P (v.toList ++ S') G' Q)
    (st : ∀ t, Steps p.tables e below (T.setTop (mkF m (pc + 3) L (v.toList ++ S'))) t → Steps p.tables e below (T0.setTop (mkF m pc L S)) t) :
    ∃ (T' : State) (locs' : List Loc) (k' n' : Nat) (r : Option Value) (G' : AH), Stand p C.1 e M.2.2.2.2 s m args below meth c T' locs' k' n' ∧ k' ≤ M.2.2.2.2.cells ∧ n' ≤ M.2.2.2.2.slots ∧ Rep C.2.1 C.2.2.1 T'.heap G' ∧ Fr C.2.2.1 locs' ∧ Q r G' ∧
      (M.2.2.2.1 = none → r = none) ∧
      ∀ fs : List Frame, (∀ (f : JFrame) (acts : List Action), f.method = m → f.locked = none → f.entered = [] → (doReturn e (T'.setTop f) acts r).1 = T'.setFrames fs) → Steps p.tables e below (T0.setTop (mkF m pc L S)) (T'.setFrames fs) := by
  obtain ⟨f1, G', f2, f3⟩ := hQ
  obtain ⟨T', locs', k', n', r, G'', g1, g2, g3, g4, g5, g6, g7, g8⟩ := h v G' f3 hw p e s m args below meth c T _ L hx hby hml hret hnm hown hZ hf hsz X f2 (Fr.app hF f1)
  exact ⟨T', locs', k', n', r, G'', g1, g2, g3, g4, g5, g6, g7, fun fs hr => st _ (g8 fs hr)⟩
theorem Runs.callS {QN : Option Value → AH → Prop} (d : DAt M pc (.invokestatic idx) 3 q) (wl : Jvm.Cond.methodLink M.1.cls idx N.1 ∈ tables_1) (wt : Jvm.Cond.static N.1 ∈ tables_1) (wc : code_w N) (ar : arity N as.length) (hr0 : room_ok M N W) (hfull : full_ok M k n) (hS : S = as.reverse ++ S') (hW : (S'.map fun v => v.category).sum = W)
    (hN : Pays C N as G QN) (h : ∀ v G', QN v G' → Runs C M k n q P (v.toList ++ S') G' Q) : Runs C M k n pc P S G Q := by
  intro hw p e s m args below meth c T locs L hx hby hml hret hnm hown hZ hf hsz X hR hF
  have hq := d.2
  subst hq hS
  have hr := hr0.al hfull
  obtain ⟨_, _, ⟨T1, L1, k1, n1⟩, -, X1, ⟨Lc, hQ, l1, y1, z1⟩, st⟩ := Jvm.LawKit.callS X hx (y := N.1) hown (mvT hZ (hw _ wl)) (mvT hZ (hw _ wt)) (mvT hZ (hw _ wc.2.1)) (mvT hZ (hw _ wc.1)) wc.2.2 (backOf (W := W) (Q := fun v h L => Fr C.2.2.1 L ∧ ∃ G', Rep C.2.1 C.2.2.1 h G' ∧ QN v G') (hN hw T.heap hR []) hZ (hw _ wc.1) (hw _ wc.2.1) hr.1 hr.2.1) (g := mkF m pc L (as.reverse ++ S')) rfl (by rw [hml]; exact hsz) (argsL := as) (rest := S') (ar.len rfl) rfl (by show 2 * 0 + _ ≤ _; omega) (hb hby d.1) (fun _ _ => ⟨rfl, rfl, hr.2.2.1, hr.2.2.2⟩)
  dsimp only [Pt.U, Pt.locs, Pt.cells, Pt.slots] at X1 l1 y1 z1 st hQ
  subst l1 y1 z1
  exact after_call hw hx hby hml hret hnm hown hZ hf hsz hF X1 hQ (by rw [hr0.2.2.1, hr0.2.2.2]; exact h) (fun t u => st t u)
theorem Runs.callV {QN : Option Value → AH → Prop} (d : DAt M pc (.invokevirtual idx) 3 q) (wl : Jvm.Cond.methodLink M.1.cls idx N.1 ∈ tables_1) (wd : Jvm.Cond.declares N.1 ∈ tables_1) (wi : Jvm.Cond.instanceMethod N.1 ∈ tables_1) (ws : Jvm.Cond.selects K.1 N.1 N.1 ∈ tables_1) (wc : code_w N) (ar : arity N as.length) (hr0 : room_ok M N W) (hfull : full_ok M k n) (hS : S = as.reverse ++ .ref a :: S') (hW : (S'.map fun v => v.category).sum = W)
    (hN : Pays C N (.ref a :: as) (top, (a, qq, ob) :: H) QN) (h : ∀ v G', QN v G' → Runs C M k n q P (v.toList ++ S') G' Q) : Runs C M k n pc P S (top, (a, qq, ob) :: H) Q := by
  intro hw p e s m args below meth c T locs L hx hby hml hret hnm hown hZ hf hsz X hR hF
  have hq := d.2
  subst hq hS
  have hr := hr0.al hfull
  obtain ⟨cB, kB, u1, -, u3⟩ := isOf hZ rfl hR.objs.2.2.1
  obtain ⟨_, _, ⟨T1, L1, k1, n1⟩, -, X1, ⟨Lc, hQ, l1, y1, z1⟩, st⟩ := X.virtualBack hx (y := N.1) (z := N.1) hown (mvT hZ (hw _ wl)) (mvT hZ (hw _ wd)) (notFace_of_selects (args := #[]) (mvT hZ (hw _ ws))) (mvT hZ (hw _ ws)) (mvT hZ (hw _ wi)) wc.2.2 (backOf (W := W) (Q := fun v h L => Fr C.2.2.1 L ∧ ∃ G', Rep C.2.1 C.2.2.1 h G' ∧ QN v G') (hN hw T.heap hR []) hZ (hw _ wc.1) (hw _ wc.2.1) hr.1 hr.2.1) u1 u3 (g := mkF m pc L (as.reverse ++ .ref a :: S')) rfl (by rw [hml]; exact hsz) (Steps.refl _) (argsL := as) (rest := S') (ar.len rfl) rfl (by show 2 * 0 + _ ≤ _; omega) (hb hby d.1) (fun _ _ => ⟨rfl, rfl, hr.2.2.1, hr.2.2.2⟩)
  dsimp only [Pt.U, Pt.locs, Pt.cells, Pt.slots] at X1 l1 y1 z1 st hQ
  subst l1 y1 z1
  exact after_call hw hx hby hml hret hnm hown hZ hf hsz hF X1 hQ (by rw [hr0.2.2.1, hr0.2.2.2]; exact h) (fun t u => st.trans u)
theorem Runs.callP {QN : Option Value → AH → Prop} (d : DAt M pc (.invokevirtual idx) 3 q) (wl : Jvm.Cond.methodLink M.1.cls idx N.1 ∈ tables_1) (wi : Jvm.Cond.instanceMethod N.1 ∈ tables_1) (wp : Jvm.Cond.privateMethod N.1 ∈ tables_1) (wK : N.1.cls = K.1) (wc : code_w N) (ar : arity N as.length) (hr0 : room_ok M N W) (hfull : full_ok M k n) (hS : S = as.reverse ++ .ref a :: S') (hW : (S'.map fun v => v.category).sum = W)
    (hN : Pays C N (.ref a :: as) (top, (a, qq, ob) :: H) QN) (h : ∀ v G', QN v G' → Runs C M k n q P (v.toList ++ S') G' Q) : Runs C M k n pc P S (top, (a, qq, ob) :: H) Q := by
  intro hw p e s m args below meth c T locs L hx hby hml hret hnm hown hZ hf hsz X hR hF
  have hq := d.2
  subst hq hS
  have hr := hr0.al hfull
  obtain ⟨cl, u1, u2⟩ := hR.objs.2.2.1.cell
  have hpr : s.PrivateAt N.1 := Cond.privateMethod_at (mvP hZ (hw _ wp) (args := #[]))
  obtain ⟨c2, k2, i1, i2, i3, i4, -⟩ := Cond.instantiable_spec (mvT (args := args) hZ (hw _ kI))
  have hsel : (Jvm.Cond.selects N.1.cls N.1 N.1).before args s = true := Stand.selects_self_of_private (by rw [wK]; exact i1) i2 (by simp at i4; exact i4.1) hpr (mvT hZ (hw _ wi)) wc.2.2
  obtain ⟨_, _, ⟨T1, L1, k1, n1⟩, -, X1, ⟨Lc, hQ, l1, y1, z1⟩, st⟩ := X.privateBack hx (y := N.1) hown (mvT hZ (hw _ wl)) (mvT hZ (hw _ wi)) hsel hpr (mvT hZ (hw _ wc.1)) wc.2.2 (backOf (W := W) (Q := fun v h L => Fr C.2.2.1 L ∧ ∃ G', Rep C.2.1 C.2.2.1 h G' ∧ QN v G') (hN hw T.heap hR []) hZ (hw _ wc.1) (hw _ wc.2.1) hr.1 hr.2.1) (g := mkF m pc L (as.reverse ++ .ref a :: S')) rfl (by rw [hml]; exact hsz) (Steps.refl _) (a := a) u1 u2 (argsL := as) (rest := S') (ar.len rfl) rfl (by show 2 * 0 + _ ≤ _; omega) (hb hby d.1) (fun _ _ => ⟨rfl, rfl, hr.2.2.1, hr.2.2.2⟩)
  dsimp only [Pt.U, Pt.locs, Pt.cells, Pt.slots] at X1 l1 y1 z1 st hQ
  subst l1 y1 z1
  exact after_call hw hx hby hml hret hnm hown hZ hf hsz hF X1 hQ (by rw [hr0.2.2.1, hr0.2.2.2]; exact h) (fun t u => st.trans u)
theorem Runs.callI {QN : Option Value → AH → Prop} (d : DAt M pc (.invokespecial idx) 3 q) (hi : N.1.name = "<init>") (hn : N.2.2.2.1 = none) (wl : Jvm.Cond.methodLink M.1.cls idx N.1 ∈ tables_1) (wi : Jvm.Cond.instanceMethod N.1 ∈ tables_1) (wc : code_w N) (ar : arity N as.length) (hr : room_al M N W k n) (hS : S = as.reverse ++ .ref a :: S') (hW : (S'.map fun v => v.category).sum = W) {k' n' : Nat} (hk' : k + N.2.2.2.2.cells = k') (hn' : n + N.2.2.2.2.slots = n')
    (hN : Pays C N (.ref a :: as) G QN) (h : ∀ v G', QN v G' → Runs C M k' n' q P (v.toList ++ S') G' Q) : Runs C M k n pc P S G Q := by
  intro hw p e s m args below meth c T locs L hx hby hml hret hnm hown hZ hf hsz X hR hF
  have hq := d.2
  subst hq hS hk' hn'
  have wc1 := hw _ wc.1
  obtain ⟨_, _, ⟨T1, L1, k1, n1⟩, -, X1, ⟨Lc, hQ, l1, y1, z1⟩, st⟩ := X.specialBack hx (y := N.1) hi hown (mvT hZ (hw _ wl)) (mvT hZ (hw _ wi)) (bytes := N.2.1) (maxL := N.2.2.1) (by have := mvT (args := args) hZ wc1; rw [hn] at this; exact this) wc.2.2 (backOf (W := W) (Q := fun v h L => Fr C.2.2.1 L ∧ ∃ G', Rep C.2.1 C.2.2.1 h G' ∧ QN v G') (hN hw T.heap hR []) hZ wc1 (hw _ wc.2.1) hr.1 hr.2.1) (g := mkF m pc L (as.reverse ++ .ref a :: S')) rfl (by rw [hml]; exact hsz) (Steps.refl _) (a := a) (argsL := as) (rest := S') (ar.len rfl) rfl (by show 2 * 0 + _ ≤ _; omega) (hb hby d.1) (fun _ _ => ⟨rfl, rfl, hr.2.2.1, hr.2.2.2⟩)
  dsimp only [Pt.U, Pt.locs, Pt.cells, Pt.slots] at X1 l1 y1 z1 st hQ
  subst l1 y1 z1
  exact after_call hw hx hby hml hret hnm hown hZ hf hsz hF X1 hQ h (fun t u => st.trans u)
/-- the plain form of a contract: one answer, one heap -/
abbrev Ans (r : Option Value) (G1 : AH) : Option Value → AH → Prop := fun v G' => v = r ∧ G' = G1
theorem ans1 {x : Value} {k n : Nat} (h : Runs C M k n pc P (x :: S) G1 Q) : ∀ v G', Ans (some x) G1 v G' → Runs C M k n pc P (v.toList ++ S) G' Q := by
  rintro v G' ⟨rfl, rfl⟩; exact h
theorem ans0 {k n : Nat} (h : Runs C M k n pc P S G1 Q) : ∀ v G', Ans none G1 v G' → Runs C M k n pc P (v.toList ++ S) G' Q := by
  rintro v G' ⟨rfl, rfl⟩; exact h
end Calls
theorem pnK : plainName "LogicalReplicator" = true := by first | (simp [plainName, overriddenIn]; done) | decide +kernel
theorem pnL : plainName "LogicalReplicatorL6" = true := by first | (simp [plainName, overriddenIn]; done) | decide +kernel
theorem w0 : (Jvm.Cond.classLink "LogicalReplicatorL6" (8 : Nat) "LogicalReplicator") ∈ tables_1 := mem1 0 rfl
theorem w3 : (Jvm.Cond.methodLink "LogicalReplicatorL6" (10 : Nat) ({ cls := "LogicalReplicator", name := "<init>", desc := "(IIII)V" } : Jvm.MethodName)) ∈ tables_1 := mem1 3 rfl
theorem w4 : (Jvm.Cond.instanceMethod ({ cls := "LogicalReplicator", name := "<init>", desc := "(IIII)V" } : Jvm.MethodName)) ∈ tables_1 := mem1 4 rfl
theorem w6 : (Jvm.Cond.methodLink "LogicalReplicator" (1 : Nat) ({ cls := "java/lang/Object", name := "<init>", desc := "()V" } : Jvm.MethodName)) ∈ tables_1 := mem1 6 rfl
theorem w7 : (Jvm.Cond.instanceMethod ({ cls := "java/lang/Object", name := "<init>", desc := "()V" } : Jvm.MethodName)) ∈ tables_1 := mem1 7 rfl
theorem w8 : (Jvm.Cond.code ({ cls := "java/lang/Object", name := "<init>", desc := "()V" } : Jvm.MethodName) object_method_1_code (1 : Nat) (Option.none : Option Jvm.ClassFile.FieldType)) ∈ tables_1 := mem1 8 rfl
theorem w9 : (Jvm.Cond.arrayClass Jvm.ClassFile.FieldType.int) ∈ tables_1 := mem1 9 rfl
theorem w10 : (Jvm.Cond.fieldLink "LogicalReplicator" (7 : Nat) "LogicalReplicator" "recKind" "[I") ∈ tables_1 := mem1 10 rfl
theorem w11 : (Jvm.Cond.lays "LogicalReplicator" "LogicalReplicator" "recKind" "[I") ∈ tables_1 := mem1 11 rfl
theorem w12 : (Jvm.Cond.fieldLink "LogicalReplicator" (13 : Nat) "LogicalReplicator" "recSlot" "[I") ∈ tables_1 := mem1 12 rfl
theorem w13 : (Jvm.Cond.lays "LogicalReplicator" "LogicalReplicator" "recSlot" "[I") ∈ tables_1 := mem1 13 rfl
theorem w14 : (Jvm.Cond.fieldLink "LogicalReplicator" (16 : Nat) "LogicalReplicator" "recKey" "[I") ∈ tables_1 := mem1 14 rfl
theorem w15 : (Jvm.Cond.lays "LogicalReplicator" "LogicalReplicator" "recKey" "[I") ∈ tables_1 := mem1 15 rfl
theorem w16 : (Jvm.Cond.fieldLink "LogicalReplicator" (19 : Nat) "LogicalReplicator" "recVal" "[I") ∈ tables_1 := mem1 16 rfl
theorem w17 : (Jvm.Cond.lays "LogicalReplicator" "LogicalReplicator" "recVal" "[I") ∈ tables_1 := mem1 17 rfl
theorem w18 : (Jvm.Cond.fieldLink "LogicalReplicator" (22 : Nat) "LogicalReplicator" "recBegin" "[I") ∈ tables_1 := mem1 18 rfl
theorem w19 : (Jvm.Cond.lays "LogicalReplicator" "LogicalReplicator" "recBegin" "[I") ∈ tables_1 := mem1 19 rfl
theorem w20 : (Jvm.Cond.arrayClass Jvm.ClassFile.FieldType.boolean) ∈ tables_1 := mem1 20 rfl
theorem w21 : (Jvm.Cond.fieldLink "LogicalReplicator" (25 : Nat) "LogicalReplicator" "slotOpen" "[Z") ∈ tables_1 := mem1 21 rfl
theorem w22 : (Jvm.Cond.lays "LogicalReplicator" "LogicalReplicator" "slotOpen" "[Z") ∈ tables_1 := mem1 22 rfl
theorem w23 : (Jvm.Cond.fieldLink "LogicalReplicator" (29 : Nat) "LogicalReplicator" "slotBegin" "[I") ∈ tables_1 := mem1 23 rfl
theorem w24 : (Jvm.Cond.lays "LogicalReplicator" "LogicalReplicator" "slotBegin" "[I") ∈ tables_1 := mem1 24 rfl
theorem w25 : (Jvm.Cond.fieldLink "LogicalReplicator" (32 : Nat) "LogicalReplicator" "pubHas" "[Z") ∈ tables_1 := mem1 25 rfl
theorem w26 : (Jvm.Cond.lays "LogicalReplicator" "LogicalReplicator" "pubHas" "[Z") ∈ tables_1 := mem1 26 rfl
theorem w27 : (Jvm.Cond.fieldLink "LogicalReplicator" (35 : Nat) "LogicalReplicator" "pubVal" "[I") ∈ tables_1 := mem1 27 rfl
theorem w28 : (Jvm.Cond.lays "LogicalReplicator" "LogicalReplicator" "pubVal" "[I") ∈ tables_1 := mem1 28 rfl
theorem w29 : (Jvm.Cond.fieldLink "LogicalReplicator" (38 : Nat) "LogicalReplicator" "subHas" "[Z") ∈ tables_1 := mem1 29 rfl
theorem w30 : (Jvm.Cond.lays "LogicalReplicator" "LogicalReplicator" "subHas" "[Z") ∈ tables_1 := mem1 30 rfl
theorem w31 : (Jvm.Cond.fieldLink "LogicalReplicator" (41 : Nat) "LogicalReplicator" "subVal" "[I") ∈ tables_1 := mem1 31 rfl
theorem w32 : (Jvm.Cond.lays "LogicalReplicator" "LogicalReplicator" "subVal" "[I") ∈ tables_1 := mem1 32 rfl
theorem w33 : (Jvm.Cond.fieldLink "LogicalReplicator" (44 : Nat) "LogicalReplicator" "pendKind" "[I") ∈ tables_1 := mem1 33 rfl
theorem w34 : (Jvm.Cond.lays "LogicalReplicator" "LogicalReplicator" "pendKind" "[I") ∈ tables_1 := mem1 34 rfl
theorem w35 : (Jvm.Cond.fieldLink "LogicalReplicator" (47 : Nat) "LogicalReplicator" "pendVal" "[I") ∈ tables_1 := mem1 35 rfl
theorem w36 : (Jvm.Cond.lays "LogicalReplicator" "LogicalReplicator" "pendVal" "[I") ∈ tables_1 := mem1 36 rfl
theorem w37 : (Jvm.Cond.fieldLink "LogicalReplicator" (50 : Nat) "LogicalReplicator" "qKind" "[I") ∈ tables_1 := mem1 37 rfl
theorem w38 : (Jvm.Cond.lays "LogicalReplicator" "LogicalReplicator" "qKind" "[I") ∈ tables_1 := mem1 38 rfl
theorem w39 : (Jvm.Cond.fieldLink "LogicalReplicator" (53 : Nat) "LogicalReplicator" "qKey" "[I") ∈ tables_1 := mem1 39 rfl
theorem w40 : (Jvm.Cond.lays "LogicalReplicator" "LogicalReplicator" "qKey" "[I") ∈ tables_1 := mem1 40 rfl
theorem w41 : (Jvm.Cond.fieldLink "LogicalReplicator" (56 : Nat) "LogicalReplicator" "qVal" "[I") ∈ tables_1 := mem1 41 rfl
theorem w42 : (Jvm.Cond.lays "LogicalReplicator" "LogicalReplicator" "qVal" "[I") ∈ tables_1 := mem1 42 rfl
theorem w43 : (Jvm.Cond.fieldLink "LogicalReplicator" (59 : Nat) "LogicalReplicator" "qPos" "[I") ∈ tables_1 := mem1 43 rfl
theorem w44 : (Jvm.Cond.lays "LogicalReplicator" "LogicalReplicator" "qPos" "[I") ∈ tables_1 := mem1 44 rfl
theorem w45 : (Jvm.Cond.methodLink "LogicalReplicator" (62 : Nat) ({ cls := "LogicalReplicator", name := "clamp", desc := "(III)I" } : Jvm.MethodName)) ∈ tables_1 := mem1 45 rfl
theorem w46 : (Jvm.Cond.instanceMethod ({ cls := "LogicalReplicator", name := "clamp", desc := "(III)I" } : Jvm.MethodName)) ∈ tables_1 := mem1 46 rfl
theorem w47 : (Jvm.Cond.privateMethod ({ cls := "LogicalReplicator", name := "clamp", desc := "(III)I" } : Jvm.MethodName)) ∈ tables_1 := mem1 47 rfl
theorem w49 : (Jvm.Cond.fieldLink "LogicalReplicator" (66 : Nat) "LogicalReplicator" "nKeys" "I") ∈ tables_1 := mem1 49 rfl
theorem w50 : (Jvm.Cond.lays "LogicalReplicator" "LogicalReplicator" "nKeys" "I") ∈ tables_1 := mem1 50 rfl
theorem w51 : (Jvm.Cond.fieldLink "LogicalReplicator" (70 : Nat) "LogicalReplicator" "nSlots" "I") ∈ tables_1 := mem1 51 rfl
theorem w52 : (Jvm.Cond.lays "LogicalReplicator" "LogicalReplicator" "nSlots" "I") ∈ tables_1 := mem1 52 rfl
theorem w53 : (Jvm.Cond.fieldLink "LogicalReplicator" (73 : Nat) "LogicalReplicator" "logCap" "I") ∈ tables_1 := mem1 53 rfl
theorem w54 : (Jvm.Cond.lays "LogicalReplicator" "LogicalReplicator" "logCap" "I") ∈ tables_1 := mem1 54 rfl
theorem w55 : (Jvm.Cond.fieldLink "LogicalReplicator" (76 : Nat) "LogicalReplicator" "memCap" "I") ∈ tables_1 := mem1 55 rfl
theorem w56 : (Jvm.Cond.lays "LogicalReplicator" "LogicalReplicator" "memCap" "I") ∈ tables_1 := mem1 56 rfl
theorem w57 : (Jvm.Cond.fieldLink "LogicalReplicator" (79 : Nat) "LogicalReplicator" "length" "I") ∈ tables_1 := mem1 57 rfl
theorem w58 : (Jvm.Cond.lays "LogicalReplicator" "LogicalReplicator" "length" "I") ∈ tables_1 := mem1 58 rfl
theorem w59 : (Jvm.Cond.fieldLink "LogicalReplicator" (82 : Nat) "LogicalReplicator" "emittedPos" "I") ∈ tables_1 := mem1 59 rfl
theorem w60 : (Jvm.Cond.lays "LogicalReplicator" "LogicalReplicator" "emittedPos" "I") ∈ tables_1 := mem1 60 rfl
theorem w61 : (Jvm.Cond.fieldLink "LogicalReplicator" (85 : Nat) "LogicalReplicator" "appliedPos" "I") ∈ tables_1 := mem1 61 rfl
theorem w62 : (Jvm.Cond.lays "LogicalReplicator" "LogicalReplicator" "appliedPos" "I") ∈ tables_1 := mem1 62 rfl
theorem w63 : (Jvm.Cond.fieldLink "LogicalReplicator" (88 : Nat) "LogicalReplicator" "confirmedPos" "I") ∈ tables_1 := mem1 63 rfl
theorem w64 : (Jvm.Cond.lays "LogicalReplicator" "LogicalReplicator" "confirmedPos" "I") ∈ tables_1 := mem1 64 rfl
theorem w65 : (Jvm.Cond.fieldLink "LogicalReplicator" (91 : Nat) "LogicalReplicator" "qHead" "I") ∈ tables_1 := mem1 65 rfl
theorem w66 : (Jvm.Cond.lays "LogicalReplicator" "LogicalReplicator" "qHead" "I") ∈ tables_1 := mem1 66 rfl
theorem w67 : (Jvm.Cond.fieldLink "LogicalReplicator" (94 : Nat) "LogicalReplicator" "qCount" "I") ∈ tables_1 := mem1 67 rfl
theorem w68 : (Jvm.Cond.lays "LogicalReplicator" "LogicalReplicator" "qCount" "I") ∈ tables_1 := mem1 68 rfl
theorem w69 : (Jvm.Cond.methodLink "LogicalReplicatorL6" (13 : Nat) ({ cls := "LogicalReplicatorL6", name := "want", desc := "(IZZZ)I" } : Jvm.MethodName)) ∈ tables_1 := mem1 69 rfl
theorem w70 : (Jvm.Cond.static ({ cls := "LogicalReplicatorL6", name := "want", desc := "(IZZZ)I" } : Jvm.MethodName)) ∈ tables_1 := mem1 70 rfl
theorem w73 : (Jvm.Cond.methodLink "LogicalReplicatorL6" (35 : Nat) ({ cls := "LogicalReplicator", name := "put", desc := "(III)I" } : Jvm.MethodName)) ∈ tables_1 := mem1 73 rfl
theorem w74 : (Jvm.Cond.declares ({ cls := "LogicalReplicator", name := "put", desc := "(III)I" } : Jvm.MethodName)) ∈ tables_1 := mem1 74 rfl
theorem w75 : (Jvm.Cond.instanceMethod ({ cls := "LogicalReplicator", name := "put", desc := "(III)I" } : Jvm.MethodName)) ∈ tables_1 := mem1 75 rfl
theorem w76 : (Jvm.Cond.selects "LogicalReplicator" ({ cls := "LogicalReplicator", name := "put", desc := "(III)I" } : Jvm.MethodName) ({ cls := "LogicalReplicator", name := "put", desc := "(III)I" } : Jvm.MethodName)) ∈ tables_1 := mem1 76 rfl
theorem w78 : (Jvm.Cond.methodLink "LogicalReplicator" (109 : Nat) ({ cls := "LogicalReplicator", name := "write", desc := "(IIII)I" } : Jvm.MethodName)) ∈ tables_1 := mem1 78 rfl
theorem w79 : (Jvm.Cond.instanceMethod ({ cls := "LogicalReplicator", name := "write", desc := "(IIII)I" } : Jvm.MethodName)) ∈ tables_1 := mem1 79 rfl
theorem w80 : (Jvm.Cond.privateMethod ({ cls := "LogicalReplicator", name := "write", desc := "(IIII)I" } : Jvm.MethodName)) ∈ tables_1 := mem1 80 rfl
theorem w82 : (Jvm.Cond.methodLink "LogicalReplicator" (112 : Nat) ({ cls := "LogicalReplicator", name := "checkOpenSlot", desc := "(I)I" } : Jvm.MethodName)) ∈ tables_1 := mem1 82 rfl
theorem w83 : (Jvm.Cond.instanceMethod ({ cls := "LogicalReplicator", name := "checkOpenSlot", desc := "(I)I" } : Jvm.MethodName)) ∈ tables_1 := mem1 83 rfl
theorem w84 : (Jvm.Cond.privateMethod ({ cls := "LogicalReplicator", name := "checkOpenSlot", desc := "(I)I" } : Jvm.MethodName)) ∈ tables_1 := mem1 84 rfl
theorem w86 : (Jvm.Cond.methodLink "LogicalReplicator" (97 : Nat) ({ cls := "LogicalReplicator", name := "validSlot", desc := "(I)Z" } : Jvm.MethodName)) ∈ tables_1 := mem1 86 rfl
theorem w87 : (Jvm.Cond.instanceMethod ({ cls := "LogicalReplicator", name := "validSlot", desc := "(I)Z" } : Jvm.MethodName)) ∈ tables_1 := mem1 87 rfl
theorem w88 : (Jvm.Cond.privateMethod ({ cls := "LogicalReplicator", name := "validSlot", desc := "(I)Z" } : Jvm.MethodName)) ∈ tables_1 := mem1 88 rfl
theorem w90 : (Jvm.Cond.methodLink "LogicalReplicatorL6" (45 : Nat) ({ cls := "LogicalReplicator", name := "info", desc := "(I)I" } : Jvm.MethodName)) ∈ tables_1 := mem1 90 rfl
theorem w91 : (Jvm.Cond.declares ({ cls := "LogicalReplicator", name := "info", desc := "(I)I" } : Jvm.MethodName)) ∈ tables_1 := mem1 91 rfl
theorem w92 : (Jvm.Cond.instanceMethod ({ cls := "LogicalReplicator", name := "info", desc := "(I)I" } : Jvm.MethodName)) ∈ tables_1 := mem1 92 rfl
theorem w93 : (Jvm.Cond.selects "LogicalReplicator" ({ cls := "LogicalReplicator", name := "info", desc := "(I)I" } : Jvm.MethodName) ({ cls := "LogicalReplicator", name := "info", desc := "(I)I" } : Jvm.MethodName)) ∈ tables_1 := mem1 93 rfl
theorem w95 : (Jvm.Cond.methodLink "LogicalReplicator" (153 : Nat) ({ cls := "LogicalReplicator", name := "countOpen", desc := "()I" } : Jvm.MethodName)) ∈ tables_1 := mem1 95 rfl
theorem w96 : (Jvm.Cond.instanceMethod ({ cls := "LogicalReplicator", name := "countOpen", desc := "()I" } : Jvm.MethodName)) ∈ tables_1 := mem1 96 rfl
theorem w97 : (Jvm.Cond.privateMethod ({ cls := "LogicalReplicator", name := "countOpen", desc := "()I" } : Jvm.MethodName)) ∈ tables_1 := mem1 97 rfl
theorem w99 : (Jvm.Cond.methodLink "LogicalReplicatorL6" (23 : Nat) ({ cls := "LogicalReplicator", name := "logRecord", desc := "(I)J" } : Jvm.MethodName)) ∈ tables_1 := mem1 99 rfl
theorem w100 : (Jvm.Cond.declares ({ cls := "LogicalReplicator", name := "logRecord", desc := "(I)J" } : Jvm.MethodName)) ∈ tables_1 := mem1 100 rfl
theorem w101 : (Jvm.Cond.instanceMethod ({ cls := "LogicalReplicator", name := "logRecord", desc := "(I)J" } : Jvm.MethodName)) ∈ tables_1 := mem1 101 rfl
theorem w102 : (Jvm.Cond.selects "LogicalReplicator" ({ cls := "LogicalReplicator", name := "logRecord", desc := "(I)J" } : Jvm.MethodName) ({ cls := "LogicalReplicator", name := "logRecord", desc := "(I)J" } : Jvm.MethodName)) ∈ tables_1 := mem1 102 rfl
theorem w104 : (Jvm.Cond.methodLink "LogicalReplicatorL6" (19 : Nat) ({ cls := "LogicalReplicator", name := "begin", desc := "(I)I" } : Jvm.MethodName)) ∈ tables_1 := mem1 104 rfl
theorem w105 : (Jvm.Cond.declares ({ cls := "LogicalReplicator", name := "begin", desc := "(I)I" } : Jvm.MethodName)) ∈ tables_1 := mem1 105 rfl
theorem w106 : (Jvm.Cond.instanceMethod ({ cls := "LogicalReplicator", name := "begin", desc := "(I)I" } : Jvm.MethodName)) ∈ tables_1 := mem1 106 rfl
theorem w107 : (Jvm.Cond.selects "LogicalReplicator" ({ cls := "LogicalReplicator", name := "begin", desc := "(I)I" } : Jvm.MethodName) ({ cls := "LogicalReplicator", name := "begin", desc := "(I)I" } : Jvm.MethodName)) ∈ tables_1 := mem1 107 rfl
theorem w109 : (Jvm.Cond.methodLink "LogicalReplicator" (101 : Nat) ({ cls := "LogicalReplicator", name := "logFull", desc := "()Z" } : Jvm.MethodName)) ∈ tables_1 := mem1 109 rfl
theorem w110 : (Jvm.Cond.instanceMethod ({ cls := "LogicalReplicator", name := "logFull", desc := "()Z" } : Jvm.MethodName)) ∈ tables_1 := mem1 110 rfl
theorem w111 : (Jvm.Cond.privateMethod ({ cls := "LogicalReplicator", name := "logFull", desc := "()Z" } : Jvm.MethodName)) ∈ tables_1 := mem1 111 rfl
theorem w113 : (Jvm.Cond.methodLink "LogicalReplicator" (105 : Nat) ({ cls := "LogicalReplicator", name := "append", desc := "(IIII)I" } : Jvm.MethodName)) ∈ tables_1 := mem1 113 rfl
theorem w114 : (Jvm.Cond.instanceMethod ({ cls := "LogicalReplicator", name := "append", desc := "(IIII)I" } : Jvm.MethodName)) ∈ tables_1 := mem1 114 rfl
theorem w115 : (Jvm.Cond.privateMethod ({ cls := "LogicalReplicator", name := "append", desc := "(IIII)I" } : Jvm.MethodName)) ∈ tables_1 := mem1 115 rfl
theorem w117 : (Jvm.Cond.constant "LogicalReplicator" (152 : Nat) (65536 : Int32)) ∈ tables_1 := mem1 117 rfl
theorem w118 : (Jvm.Cond.methodLink "LogicalReplicatorL6" (27 : Nat) ({ cls := "LogicalReplicatorL6", name := "rec", desc := "(IIII)J" } : Jvm.MethodName)) ∈ tables_1 := mem1 118 rfl
theorem w119 : (Jvm.Cond.static ({ cls := "LogicalReplicatorL6", name := "rec", desc := "(IIII)J" } : Jvm.MethodName)) ∈ tables_1 := mem1 119 rfl
theorem w121 : (Jvm.Cond.constant "LogicalReplicatorL6" (7 : Nat) (65536 : Int32)) ∈ tables_1 := mem1 121 rfl
theorem w122 : (Jvm.Cond.methodLink "LogicalReplicator" (116 : Nat) ({ cls := "LogicalReplicator", name := "validKey", desc := "(I)Z" } : Jvm.MethodName)) ∈ tables_1 := mem1 122 rfl
theorem w123 : (Jvm.Cond.instanceMethod ({ cls := "LogicalReplicator", name := "validKey", desc := "(I)Z" } : Jvm.MethodName)) ∈ tables_1 := mem1 123 rfl
theorem w124 : (Jvm.Cond.privateMethod ({ cls := "LogicalReplicator", name := "validKey", desc := "(I)Z" } : Jvm.MethodName)) ∈ tables_1 := mem1 124 rfl
theorem w126 : (Jvm.Cond.methodLink "LogicalReplicatorL6" (48 : Nat) ({ cls := "LogicalReplicator", name := "stream", desc := "(I)I" } : Jvm.MethodName)) ∈ tables_1 := mem1 126 rfl
theorem w127 : (Jvm.Cond.declares ({ cls := "LogicalReplicator", name := "stream", desc := "(I)I" } : Jvm.MethodName)) ∈ tables_1 := mem1 127 rfl
theorem w128 : (Jvm.Cond.instanceMethod ({ cls := "LogicalReplicator", name := "stream", desc := "(I)I" } : Jvm.MethodName)) ∈ tables_1 := mem1 128 rfl
theorem w129 : (Jvm.Cond.selects "LogicalReplicator" ({ cls := "LogicalReplicator", name := "stream", desc := "(I)I" } : Jvm.MethodName) ({ cls := "LogicalReplicator", name := "stream", desc := "(I)I" } : Jvm.MethodName)) ∈ tables_1 := mem1 129 rfl
theorem w131 : (Jvm.Cond.methodLink "LogicalReplicator" (123 : Nat) ({ cls := "LogicalReplicator", name := "nextCommit", desc := "(I)I" } : Jvm.MethodName)) ∈ tables_1 := mem1 131 rfl
theorem w132 : (Jvm.Cond.instanceMethod ({ cls := "LogicalReplicator", name := "nextCommit", desc := "(I)I" } : Jvm.MethodName)) ∈ tables_1 := mem1 132 rfl
theorem w133 : (Jvm.Cond.privateMethod ({ cls := "LogicalReplicator", name := "nextCommit", desc := "(I)I" } : Jvm.MethodName)) ∈ tables_1 := mem1 133 rfl
theorem w135 : (Jvm.Cond.methodLink "LogicalReplicatorL6" (61 : Nat) ({ cls := "LogicalReplicator", name := "crashSubscriber", desc := "()V" } : Jvm.MethodName)) ∈ tables_1 := mem1 135 rfl
theorem w136 : (Jvm.Cond.declares ({ cls := "LogicalReplicator", name := "crashSubscriber", desc := "()V" } : Jvm.MethodName)) ∈ tables_1 := mem1 136 rfl
theorem w137 : (Jvm.Cond.instanceMethod ({ cls := "LogicalReplicator", name := "crashSubscriber", desc := "()V" } : Jvm.MethodName)) ∈ tables_1 := mem1 137 rfl
theorem w138 : (Jvm.Cond.selects "LogicalReplicator" ({ cls := "LogicalReplicator", name := "crashSubscriber", desc := "()V" } : Jvm.MethodName) ({ cls := "LogicalReplicator", name := "crashSubscriber", desc := "()V" } : Jvm.MethodName)) ∈ tables_1 := mem1 138 rfl
theorem w140 : (Jvm.Cond.methodLink "LogicalReplicator" (140 : Nat) ({ cls := "LogicalReplicator", name := "clearQueue", desc := "()V" } : Jvm.MethodName)) ∈ tables_1 := mem1 140 rfl
theorem w141 : (Jvm.Cond.instanceMethod ({ cls := "LogicalReplicator", name := "clearQueue", desc := "()V" } : Jvm.MethodName)) ∈ tables_1 := mem1 141 rfl
theorem w142 : (Jvm.Cond.privateMethod ({ cls := "LogicalReplicator", name := "clearQueue", desc := "()V" } : Jvm.MethodName)) ∈ tables_1 := mem1 142 rfl
theorem w144 : (Jvm.Cond.methodLink "LogicalReplicator" (143 : Nat) ({ cls := "LogicalReplicator", name := "clearPending", desc := "()V" } : Jvm.MethodName)) ∈ tables_1 := mem1 144 rfl
theorem w145 : (Jvm.Cond.instanceMethod ({ cls := "LogicalReplicator", name := "clearPending", desc := "()V" } : Jvm.MethodName)) ∈ tables_1 := mem1 145 rfl
theorem w146 : (Jvm.Cond.privateMethod ({ cls := "LogicalReplicator", name := "clearPending", desc := "()V" } : Jvm.MethodName)) ∈ tables_1 := mem1 146 rfl
theorem w148 : (Jvm.Cond.methodLink "LogicalReplicatorL6" (39 : Nat) ({ cls := "LogicalReplicator", name := "abort", desc := "(I)I" } : Jvm.MethodName)) ∈ tables_1 := mem1 148 rfl
theorem w149 : (Jvm.Cond.declares ({ cls := "LogicalReplicator", name := "abort", desc := "(I)I" } : Jvm.MethodName)) ∈ tables_1 := mem1 149 rfl
theorem w150 : (Jvm.Cond.instanceMethod ({ cls := "LogicalReplicator", name := "abort", desc := "(I)I" } : Jvm.MethodName)) ∈ tables_1 := mem1 150 rfl
theorem w151 : (Jvm.Cond.selects "LogicalReplicator" ({ cls := "LogicalReplicator", name := "abort", desc := "(I)I" } : Jvm.MethodName) ({ cls := "LogicalReplicator", name := "abort", desc := "(I)I" } : Jvm.MethodName)) ∈ tables_1 := mem1 151 rfl
theorem w153 : (Jvm.Cond.methodLink "LogicalReplicatorL6" (58 : Nat) ({ cls := "LogicalReplicator", name := "crashPublisher", desc := "()V" } : Jvm.MethodName)) ∈ tables_1 := mem1 153 rfl
theorem w154 : (Jvm.Cond.declares ({ cls := "LogicalReplicator", name := "crashPublisher", desc := "()V" } : Jvm.MethodName)) ∈ tables_1 := mem1 154 rfl
theorem w155 : (Jvm.Cond.instanceMethod ({ cls := "LogicalReplicator", name := "crashPublisher", desc := "()V" } : Jvm.MethodName)) ∈ tables_1 := mem1 155 rfl
theorem w156 : (Jvm.Cond.selects "LogicalReplicator" ({ cls := "LogicalReplicator", name := "crashPublisher", desc := "()V" } : Jvm.MethodName) ({ cls := "LogicalReplicator", name := "crashPublisher", desc := "()V" } : Jvm.MethodName)) ∈ tables_1 := mem1 156 rfl
theorem w158 : (Jvm.Cond.methodLink "LogicalReplicatorL6" (31 : Nat) ({ cls := "LogicalReplicator", name := "del", desc := "(II)I" } : Jvm.MethodName)) ∈ tables_1 := mem1 158 rfl
theorem w159 : (Jvm.Cond.declares ({ cls := "LogicalReplicator", name := "del", desc := "(II)I" } : Jvm.MethodName)) ∈ tables_1 := mem1 159 rfl
theorem w160 : (Jvm.Cond.instanceMethod ({ cls := "LogicalReplicator", name := "del", desc := "(II)I" } : Jvm.MethodName)) ∈ tables_1 := mem1 160 rfl
theorem w161 : (Jvm.Cond.selects "LogicalReplicator" ({ cls := "LogicalReplicator", name := "del", desc := "(II)I" } : Jvm.MethodName) ({ cls := "LogicalReplicator", name := "del", desc := "(II)I" } : Jvm.MethodName)) ∈ tables_1 := mem1 161 rfl
theorem w163 : (Jvm.Cond.methodLink "LogicalReplicatorL6" (51 : Nat) ({ cls := "LogicalReplicator", name := "apply", desc := "(I)I" } : Jvm.MethodName)) ∈ tables_1 := mem1 163 rfl
theorem w164 : (Jvm.Cond.declares ({ cls := "LogicalReplicator", name := "apply", desc := "(I)I" } : Jvm.MethodName)) ∈ tables_1 := mem1 164 rfl
theorem w165 : (Jvm.Cond.instanceMethod ({ cls := "LogicalReplicator", name := "apply", desc := "(I)I" } : Jvm.MethodName)) ∈ tables_1 := mem1 165 rfl
theorem w166 : (Jvm.Cond.selects "LogicalReplicator" ({ cls := "LogicalReplicator", name := "apply", desc := "(I)I" } : Jvm.MethodName) ({ cls := "LogicalReplicator", name := "apply", desc := "(I)I" } : Jvm.MethodName)) ∈ tables_1 := mem1 166 rfl
theorem w168 : (Jvm.Cond.methodLink "LogicalReplicatorL6" (42 : Nat) ({ cls := "LogicalReplicator", name := "commit", desc := "(I)I" } : Jvm.MethodName)) ∈ tables_1 := mem1 168 rfl
theorem w169 : (Jvm.Cond.declares ({ cls := "LogicalReplicator", name := "commit", desc := "(I)I" } : Jvm.MethodName)) ∈ tables_1 := mem1 169 rfl
theorem w170 : (Jvm.Cond.instanceMethod ({ cls := "LogicalReplicator", name := "commit", desc := "(I)I" } : Jvm.MethodName)) ∈ tables_1 := mem1 170 rfl
theorem w171 : (Jvm.Cond.selects "LogicalReplicator" ({ cls := "LogicalReplicator", name := "commit", desc := "(I)I" } : Jvm.MethodName) ({ cls := "LogicalReplicator", name := "commit", desc := "(I)I" } : Jvm.MethodName)) ∈ tables_1 := mem1 171 rfl
theorem w173 : (Jvm.Cond.methodLink "LogicalReplicatorL6" (54 : Nat) ({ cls := "LogicalReplicator", name := "feedback", desc := "()I" } : Jvm.MethodName)) ∈ tables_1 := mem1 173 rfl
theorem w174 : (Jvm.Cond.declares ({ cls := "LogicalReplicator", name := "feedback", desc := "()I" } : Jvm.MethodName)) ∈ tables_1 := mem1 174 rfl
theorem w175 : (Jvm.Cond.instanceMethod ({ cls := "LogicalReplicator", name := "feedback", desc := "()I" } : Jvm.MethodName)) ∈ tables_1 := mem1 175 rfl
theorem w176 : (Jvm.Cond.selects "LogicalReplicator" ({ cls := "LogicalReplicator", name := "feedback", desc := "()I" } : Jvm.MethodName) ({ cls := "LogicalReplicator", name := "feedback", desc := "()I" } : Jvm.MethodName)) ∈ tables_1 := mem1 176 rfl
theorem w178 : (Jvm.Cond.methodLink "LogicalReplicator" (119 : Nat) ({ cls := "LogicalReplicator", name := "applyToPublisher", desc := "(III)V" } : Jvm.MethodName)) ∈ tables_1 := mem1 178 rfl
theorem w179 : (Jvm.Cond.instanceMethod ({ cls := "LogicalReplicator", name := "applyToPublisher", desc := "(III)V" } : Jvm.MethodName)) ∈ tables_1 := mem1 179 rfl
theorem w180 : (Jvm.Cond.privateMethod ({ cls := "LogicalReplicator", name := "applyToPublisher", desc := "(III)V" } : Jvm.MethodName)) ∈ tables_1 := mem1 180 rfl
theorem w182 : (Jvm.Cond.methodLink "LogicalReplicator" (126 : Nat) ({ cls := "LogicalReplicator", name := "emitTransaction", desc := "(I)V" } : Jvm.MethodName)) ∈ tables_1 := mem1 182 rfl
theorem w183 : (Jvm.Cond.instanceMethod ({ cls := "LogicalReplicator", name := "emitTransaction", desc := "(I)V" } : Jvm.MethodName)) ∈ tables_1 := mem1 183 rfl
theorem w184 : (Jvm.Cond.privateMethod ({ cls := "LogicalReplicator", name := "emitTransaction", desc := "(I)V" } : Jvm.MethodName)) ∈ tables_1 := mem1 184 rfl
theorem w186 : (Jvm.Cond.methodLink "LogicalReplicator" (130 : Nat) ({ cls := "LogicalReplicator", name := "enqueue", desc := "(IIII)V" } : Jvm.MethodName)) ∈ tables_1 := mem1 186 rfl
theorem w187 : (Jvm.Cond.instanceMethod ({ cls := "LogicalReplicator", name := "enqueue", desc := "(IIII)V" } : Jvm.MethodName)) ∈ tables_1 := mem1 187 rfl
theorem w188 : (Jvm.Cond.privateMethod ({ cls := "LogicalReplicator", name := "enqueue", desc := "(IIII)V" } : Jvm.MethodName)) ∈ tables_1 := mem1 188 rfl
theorem w190 : (Jvm.Cond.methodLink "LogicalReplicator" (134 : Nat) ({ cls := "LogicalReplicator", name := "handleHead", desc := "()V" } : Jvm.MethodName)) ∈ tables_1 := mem1 190 rfl
theorem w191 : (Jvm.Cond.instanceMethod ({ cls := "LogicalReplicator", name := "handleHead", desc := "()V" } : Jvm.MethodName)) ∈ tables_1 := mem1 191 rfl
theorem w192 : (Jvm.Cond.privateMethod ({ cls := "LogicalReplicator", name := "handleHead", desc := "()V" } : Jvm.MethodName)) ∈ tables_1 := mem1 192 rfl
theorem w194 : (Jvm.Cond.methodLink "LogicalReplicator" (137 : Nat) ({ cls := "LogicalReplicator", name := "applyPending", desc := "()V" } : Jvm.MethodName)) ∈ tables_1 := mem1 194 rfl
theorem w195 : (Jvm.Cond.instanceMethod ({ cls := "LogicalReplicator", name := "applyPending", desc := "()V" } : Jvm.MethodName)) ∈ tables_1 := mem1 195 rfl
theorem w196 : (Jvm.Cond.privateMethod ({ cls := "LogicalReplicator", name := "applyPending", desc := "()V" } : Jvm.MethodName)) ∈ tables_1 := mem1 196 rfl
theorem fS_0 : K.2.1[0]? = some ("nKeys", "I") := rfl
theorem fS_1 : K.2.1[1]? = some ("nSlots", "I") := rfl
theorem fS_2 : K.2.1[2]? = some ("logCap", "I") := rfl
theorem fS_3 : K.2.1[3]? = some ("memCap", "I") := rfl
theorem fS_4 : K.2.1[4]? = some ("length", "I") := rfl
theorem fS_5 : K.2.1[5]? = some ("emittedPos", "I") := rfl
theorem fS_6 : K.2.1[6]? = some ("appliedPos", "I") := rfl
theorem fS_7 : K.2.1[7]? = some ("confirmedPos", "I") := rfl
theorem fS_8 : K.2.1[8]? = some ("qHead", "I") := rfl
theorem fS_9 : K.2.1[9]? = some ("qCount", "I") := rfl
theorem fA_0 : K.2.2[0]? = some ("recKind", .int, (129 : Int32)) := rfl
theorem fA_1 : K.2.2[1]? = some ("recSlot", .int, (129 : Int32)) := rfl
theorem fA_2 : K.2.2[2]? = some ("recKey", .int, (129 : Int32)) := rfl
theorem fA_3 : K.2.2[3]? = some ("recVal", .int, (129 : Int32)) := rfl
theorem fA_4 : K.2.2[4]? = some ("recBegin", .int, (129 : Int32)) := rfl
theorem fA_5 : K.2.2[5]? = some ("slotOpen", .boolean, (8 : Int32)) := rfl
theorem fA_6 : K.2.2[6]? = some ("slotBegin", .int, (8 : Int32)) := rfl
theorem fA_7 : K.2.2[7]? = some ("pubHas", .boolean, (32 : Int32)) := rfl
theorem fA_8 : K.2.2[8]? = some ("pubVal", .int, (32 : Int32)) := rfl
theorem fA_9 : K.2.2[9]? = some ("subHas", .boolean, (32 : Int32)) := rfl
theorem fA_10 : K.2.2[10]? = some ("subVal", .int, (32 : Int32)) := rfl
theorem fA_11 : K.2.2[11]? = some ("pendKind", .int, (32 : Int32)) := rfl
theorem fA_12 : K.2.2[12]? = some ("pendVal", .int, (32 : Int32)) := rfl
theorem fA_13 : K.2.2[13]? = some ("qKind", .int, (128 : Int32)) := rfl
theorem fA_14 : K.2.2[14]? = some ("qKey", .int, (128 : Int32)) := rfl
theorem fA_15 : K.2.2[15]? = some ("qVal", .int, (128 : Int32)) := rfl
theorem fA_16 : K.2.2[16]? = some ("qPos", .int, (128 : Int32)) := rfl
theorem cb_m4 : (Int8.ofInt (-4)).toInt32 = (-4 : Int32) := by decide
theorem cb_m3 : (Int8.ofInt (-3)).toInt32 = (-3 : Int32) := by decide
theorem cb_m2 : (Int8.ofInt (-2)).toInt32 = (-2 : Int32) := by decide
theorem cb_7 : (Int8.ofInt 7).toInt32 = (7 : Int32) := by decide
theorem cb_8 : (Int8.ofInt 8).toInt32 = (8 : Int32) := by decide
theorem cb_9 : (Int8.ofInt 9).toInt32 = (9 : Int32) := by decide
theorem cb_11 : (Int8.ofInt 11).toInt32 = (11 : Int32) := by decide
theorem cb_12 : (Int8.ofInt 12).toInt32 = (12 : Int32) := by decide
theorem cb_13 : (Int8.ofInt 13).toInt32 = (13 : Int32) := by decide
theorem cb_15 : (Int8.ofInt 15).toInt32 = (15 : Int32) := by decide
theorem cb_16 : (Int8.ofInt 16).toInt32 = (16 : Int32) := by decide
theorem cb_32 : (Int8.ofInt 32).toInt32 = (32 : Int32) := by decide
theorem cb_64 : (Int8.ofInt 64).toInt32 = (64 : Int32) := by decide
theorem ci_m1 : Int32.ofInt (-1) = (-1 : Int32) := by decide
theorem ci_0 : Int32.ofInt 0 = (0 : Int32) := by decide
theorem ci_1 : Int32.ofInt 1 = (1 : Int32) := by decide
theorem ci_2 : Int32.ofInt 2 = (2 : Int32) := by decide
theorem ci_3 : Int32.ofInt 3 = (3 : Int32) := by decide
theorem ci_4 : Int32.ofInt 4 = (4 : Int32) := by decide
theorem ci_5 : Int32.ofInt 5 = (5 : Int32) := by decide
theorem cl_0 : Int64.ofNat (0 : Fin 2) = (0 : Int64) := by decide
theorem cl_1 : Int64.ofNat (1 : Fin 2) = (1 : Int64) := by decide
theorem cs_128 : (Int16.ofInt 128).toInt32 = (128 : Int32) := by decide
theorem cs_129 : (Int16.ofInt 129).toInt32 = (129 : Int32) := by decide
theorem cs_256 : (Int16.ofInt 256).toInt32 = (256 : Int32) := by decide
def B2 : Bdy := ((⟨"LogicalReplicator", "clamp", "(III)I"⟩ : MethodName), prog_1_method_2_code, 4, (some .int), ({ frames := 0, cells := 0, slots := 0, locals := 0 } : Room))
theorem d2_0 : DAt B2 0 (.iload_n 1) 1 1 := ⟨by decide +kernel, rfl⟩
theorem d2_1 : DAt B2 1 (.iload_n 2) 1 2 := ⟨by decide +kernel, rfl⟩
theorem d2_2 : DAt B2 2 (.if_icmp .ge 5) 3 5 := ⟨by decide +kernel, rfl⟩
theorem d2_5 : DAt B2 5 (.iload_n 2) 1 6 := ⟨by decide +kernel, rfl⟩
theorem d2_6 : DAt B2 6 (.ireturn) 1 7 := ⟨by decide +kernel, rfl⟩
theorem d2_7 : DAt B2 7 (.iload_n 1) 1 8 := ⟨by decide +kernel, rfl⟩
theorem d2_8 : DAt B2 8 (.iload_n 3) 1 9 := ⟨by decide +kernel, rfl⟩
theorem d2_9 : DAt B2 9 (.if_icmp .le 5) 3 12 := ⟨by decide +kernel, rfl⟩
theorem d2_12 : DAt B2 12 (.iload_n 3) 1 13 := ⟨by decide +kernel, rfl⟩
theorem d2_13 : DAt B2 13 (.ireturn) 1 14 := ⟨by decide +kernel, rfl⟩
theorem d2_14 : DAt B2 14 (.iload_n 1) 1 15 := ⟨by decide +kernel, rfl⟩
theorem d2_15 : DAt B2 15 (.ireturn) 1 16 := ⟨by decide +kernel, rfl⟩
def B1 : Bdy := ((⟨"LogicalReplicator", "<init>", "(IIII)V"⟩ : MethodName), prog_1_method_1_code, 5, none, ({ frames := 1, cells := 17, slots := 1365, locals := 16 } : Room))
theorem d1_0 : DAt B1 0 (.aload_n 0) 1 1 := ⟨by decide +kernel, rfl⟩
theorem d1_1 : DAt B1 1 (.invokespecial 1) 3 4 := ⟨by decide +kernel, rfl⟩
theorem d1_4 : DAt B1 4 (.aload_n 0) 1 5 := ⟨by decide +kernel, rfl⟩
theorem d1_5 : DAt B1 5 (.sipush 129) 3 8 := ⟨by decide +kernel, rfl⟩
theorem d1_8 : DAt B1 8 (.newarray .int) 2 10 := ⟨by decide +kernel, rfl⟩
theorem d1_10 : DAt B1 10 (.putfield 7) 3 13 := ⟨by decide +kernel, rfl⟩
theorem d1_13 : DAt B1 13 (.aload_n 0) 1 14 := ⟨by decide +kernel, rfl⟩
theorem d1_14 : DAt B1 14 (.sipush 129) 3 17 := ⟨by decide +kernel, rfl⟩
theorem d1_17 : DAt B1 17 (.newarray .int) 2 19 := ⟨by decide +kernel, rfl⟩
theorem d1_19 : DAt B1 19 (.putfield 13) 3 22 := ⟨by decide +kernel, rfl⟩
theorem d1_22 : DAt B1 22 (.aload_n 0) 1 23 := ⟨by decide +kernel, rfl⟩
theorem d1_23 : DAt B1 23 (.sipush 129) 3 26 := ⟨by decide +kernel, rfl⟩
theorem d1_26 : DAt B1 26 (.newarray .int) 2 28 := ⟨by decide +kernel, rfl⟩
theorem d1_28 : DAt B1 28 (.putfield 16) 3 31 := ⟨by decide +kernel, rfl⟩
theorem d1_31 : DAt B1 31 (.aload_n 0) 1 32 := ⟨by decide +kernel, rfl⟩
theorem d1_32 : DAt B1 32 (.sipush 129) 3 35 := ⟨by decide +kernel, rfl⟩
theorem d1_35 : DAt B1 35 (.newarray .int) 2 37 := ⟨by decide +kernel, rfl⟩
theorem d1_37 : DAt B1 37 (.putfield 19) 3 40 := ⟨by decide +kernel, rfl⟩
theorem d1_40 : DAt B1 40 (.aload_n 0) 1 41 := ⟨by decide +kernel, rfl⟩
theorem d1_41 : DAt B1 41 (.sipush 129) 3 44 := ⟨by decide +kernel, rfl⟩
theorem d1_44 : DAt B1 44 (.newarray .int) 2 46 := ⟨by decide +kernel, rfl⟩
theorem d1_46 : DAt B1 46 (.putfield 22) 3 49 := ⟨by decide +kernel, rfl⟩
theorem d1_49 : DAt B1 49 (.aload_n 0) 1 50 := ⟨by decide +kernel, rfl⟩
theorem d1_50 : DAt B1 50 (.bipush 8) 2 52 := ⟨by decide +kernel, rfl⟩
theorem d1_52 : DAt B1 52 (.newarray .boolean) 2 54 := ⟨by decide +kernel, rfl⟩
theorem d1_54 : DAt B1 54 (.putfield 25) 3 57 := ⟨by decide +kernel, rfl⟩
theorem d1_57 : DAt B1 57 (.aload_n 0) 1 58 := ⟨by decide +kernel, rfl⟩
theorem d1_58 : DAt B1 58 (.bipush 8) 2 60 := ⟨by decide +kernel, rfl⟩
theorem d1_60 : DAt B1 60 (.newarray .int) 2 62 := ⟨by decide +kernel, rfl⟩
theorem d1_62 : DAt B1 62 (.putfield 29) 3 65 := ⟨by decide +kernel, rfl⟩
theorem d1_65 : DAt B1 65 (.aload_n 0) 1 66 := ⟨by decide +kernel, rfl⟩
theorem d1_66 : DAt B1 66 (.bipush 32) 2 68 := ⟨by decide +kernel, rfl⟩
theorem d1_68 : DAt B1 68 (.newarray .boolean) 2 70 := ⟨by decide +kernel, rfl⟩
theorem d1_70 : DAt B1 70 (.putfield 32) 3 73 := ⟨by decide +kernel, rfl⟩
theorem d1_73 : DAt B1 73 (.aload_n 0) 1 74 := ⟨by decide +kernel, rfl⟩
theorem d1_74 : DAt B1 74 (.bipush 32) 2 76 := ⟨by decide +kernel, rfl⟩
theorem d1_76 : DAt B1 76 (.newarray .int) 2 78 := ⟨by decide +kernel, rfl⟩
theorem d1_78 : DAt B1 78 (.putfield 35) 3 81 := ⟨by decide +kernel, rfl⟩
theorem d1_81 : DAt B1 81 (.aload_n 0) 1 82 := ⟨by decide +kernel, rfl⟩
theorem d1_82 : DAt B1 82 (.bipush 32) 2 84 := ⟨by decide +kernel, rfl⟩
theorem d1_84 : DAt B1 84 (.newarray .boolean) 2 86 := ⟨by decide +kernel, rfl⟩
theorem d1_86 : DAt B1 86 (.putfield 38) 3 89 := ⟨by decide +kernel, rfl⟩
theorem d1_89 : DAt B1 89 (.aload_n 0) 1 90 := ⟨by decide +kernel, rfl⟩
theorem d1_90 : DAt B1 90 (.bipush 32) 2 92 := ⟨by decide +kernel, rfl⟩
theorem d1_92 : DAt B1 92 (.newarray .int) 2 94 := ⟨by decide +kernel, rfl⟩
theorem d1_94 : DAt B1 94 (.putfield 41) 3 97 := ⟨by decide +kernel, rfl⟩
theorem d1_97 : DAt B1 97 (.aload_n 0) 1 98 := ⟨by decide +kernel, rfl⟩
theorem d1_98 : DAt B1 98 (.bipush 32) 2 100 := ⟨by decide +kernel, rfl⟩
theorem d1_100 : DAt B1 100 (.newarray .int) 2 102 := ⟨by decide +kernel, rfl⟩
theorem d1_102 : DAt B1 102 (.putfield 44) 3 105 := ⟨by decide +kernel, rfl⟩
theorem d1_105 : DAt B1 105 (.aload_n 0) 1 106 := ⟨by decide +kernel, rfl⟩
theorem d1_106 : DAt B1 106 (.bipush 32) 2 108 := ⟨by decide +kernel, rfl⟩
theorem d1_108 : DAt B1 108 (.newarray .int) 2 110 := ⟨by decide +kernel, rfl⟩
theorem d1_110 : DAt B1 110 (.putfield 47) 3 113 := ⟨by decide +kernel, rfl⟩
theorem d1_113 : DAt B1 113 (.aload_n 0) 1 114 := ⟨by decide +kernel, rfl⟩
theorem d1_114 : DAt B1 114 (.sipush 128) 3 117 := ⟨by decide +kernel, rfl⟩
theorem d1_117 : DAt B1 117 (.newarray .int) 2 119 := ⟨by decide +kernel, rfl⟩
theorem d1_119 : DAt B1 119 (.putfield 50) 3 122 := ⟨by decide +kernel, rfl⟩
theorem d1_122 : DAt B1 122 (.aload_n 0) 1 123 := ⟨by decide +kernel, rfl⟩
theorem d1_123 : DAt B1 123 (.sipush 128) 3 126 := ⟨by decide +kernel, rfl⟩
theorem d1_126 : DAt B1 126 (.newarray .int) 2 128 := ⟨by decide +kernel, rfl⟩
theorem d1_128 : DAt B1 128 (.putfield 53) 3 131 := ⟨by decide +kernel, rfl⟩
theorem d1_131 : DAt B1 131 (.aload_n 0) 1 132 := ⟨by decide +kernel, rfl⟩
theorem d1_132 : DAt B1 132 (.sipush 128) 3 135 := ⟨by decide +kernel, rfl⟩
theorem d1_135 : DAt B1 135 (.newarray .int) 2 137 := ⟨by decide +kernel, rfl⟩
theorem d1_137 : DAt B1 137 (.putfield 56) 3 140 := ⟨by decide +kernel, rfl⟩
theorem d1_140 : DAt B1 140 (.aload_n 0) 1 141 := ⟨by decide +kernel, rfl⟩
theorem d1_141 : DAt B1 141 (.sipush 128) 3 144 := ⟨by decide +kernel, rfl⟩
theorem d1_144 : DAt B1 144 (.newarray .int) 2 146 := ⟨by decide +kernel, rfl⟩
theorem d1_146 : DAt B1 146 (.putfield 59) 3 149 := ⟨by decide +kernel, rfl⟩
theorem d1_149 : DAt B1 149 (.aload_n 0) 1 150 := ⟨by decide +kernel, rfl⟩
theorem d1_150 : DAt B1 150 (.aload_n 0) 1 151 := ⟨by decide +kernel, rfl⟩
theorem d1_151 : DAt B1 151 (.iload_n 1) 1 152 := ⟨by decide +kernel, rfl⟩
theorem d1_152 : DAt B1 152 (.bipush 8) 2 154 := ⟨by decide +kernel, rfl⟩
theorem d1_154 : DAt B1 154 (.bipush 32) 2 156 := ⟨by decide +kernel, rfl⟩
theorem d1_156 : DAt B1 156 (.invokevirtual 62) 3 159 := ⟨by decide +kernel, rfl⟩
theorem d1_159 : DAt B1 159 (.putfield 66) 3 162 := ⟨by decide +kernel, rfl⟩
theorem d1_162 : DAt B1 162 (.aload_n 0) 1 163 := ⟨by decide +kernel, rfl⟩
theorem d1_163 : DAt B1 163 (.aload_n 0) 1 164 := ⟨by decide +kernel, rfl⟩
theorem d1_164 : DAt B1 164 (.iload_n 2) 1 165 := ⟨by decide +kernel, rfl⟩
theorem d1_165 : DAt B1 165 (.iconst 2) 1 166 := ⟨by decide +kernel, rfl⟩
theorem d1_166 : DAt B1 166 (.bipush 8) 2 168 := ⟨by decide +kernel, rfl⟩
theorem d1_168 : DAt B1 168 (.invokevirtual 62) 3 171 := ⟨by decide +kernel, rfl⟩
theorem d1_171 : DAt B1 171 (.putfield 70) 3 174 := ⟨by decide +kernel, rfl⟩
theorem d1_174 : DAt B1 174 (.aload_n 0) 1 175 := ⟨by decide +kernel, rfl⟩
theorem d1_175 : DAt B1 175 (.aload_n 0) 1 176 := ⟨by decide +kernel, rfl⟩
theorem d1_176 : DAt B1 176 (.iload_n 3) 1 177 := ⟨by decide +kernel, rfl⟩
theorem d1_177 : DAt B1 177 (.bipush 16) 2 179 := ⟨by decide +kernel, rfl⟩
theorem d1_179 : DAt B1 179 (.sipush 128) 3 182 := ⟨by decide +kernel, rfl⟩
theorem d1_182 : DAt B1 182 (.invokevirtual 62) 3 185 := ⟨by decide +kernel, rfl⟩
theorem d1_185 : DAt B1 185 (.putfield 73) 3 188 := ⟨by decide +kernel, rfl⟩
theorem d1_188 : DAt B1 188 (.aload_n 0) 1 189 := ⟨by decide +kernel, rfl⟩
theorem d1_189 : DAt B1 189 (.aload_n 0) 1 190 := ⟨by decide +kernel, rfl⟩
theorem d1_190 : DAt B1 190 (.iload 4) 2 192 := ⟨by decide +kernel, rfl⟩
theorem d1_192 : DAt B1 192 (.iconst 2) 1 193 := ⟨by decide +kernel, rfl⟩
theorem d1_193 : DAt B1 193 (.bipush 32) 2 195 := ⟨by decide +kernel, rfl⟩
theorem d1_195 : DAt B1 195 (.invokevirtual 62) 3 198 := ⟨by decide +kernel, rfl⟩
theorem d1_198 : DAt B1 198 (.putfield 76) 3 201 := ⟨by decide +kernel, rfl⟩
theorem d1_201 : DAt B1 201 (.aload_n 0) 1 202 := ⟨by decide +kernel, rfl⟩
theorem d1_202 : DAt B1 202 (.iconst 0) 1 203 := ⟨by decide +kernel, rfl⟩
theorem d1_203 : DAt B1 203 (.putfield 79) 3 206 := ⟨by decide +kernel, rfl⟩
theorem d1_206 : DAt B1 206 (.aload_n 0) 1 207 := ⟨by decide +kernel, rfl⟩
theorem d1_207 : DAt B1 207 (.iconst 0) 1 208 := ⟨by decide +kernel, rfl⟩
theorem d1_208 : DAt B1 208 (.putfield 82) 3 211 := ⟨by decide +kernel, rfl⟩
theorem d1_211 : DAt B1 211 (.aload_n 0) 1 212 := ⟨by decide +kernel, rfl⟩
theorem d1_212 : DAt B1 212 (.iconst 0) 1 213 := ⟨by decide +kernel, rfl⟩
theorem d1_213 : DAt B1 213 (.putfield 85) 3 216 := ⟨by decide +kernel, rfl⟩
theorem d1_216 : DAt B1 216 (.aload_n 0) 1 217 := ⟨by decide +kernel, rfl⟩
theorem d1_217 : DAt B1 217 (.iconst 0) 1 218 := ⟨by decide +kernel, rfl⟩
theorem d1_218 : DAt B1 218 (.putfield 88) 3 221 := ⟨by decide +kernel, rfl⟩
theorem d1_221 : DAt B1 221 (.aload_n 0) 1 222 := ⟨by decide +kernel, rfl⟩
theorem d1_222 : DAt B1 222 (.iconst 0) 1 223 := ⟨by decide +kernel, rfl⟩
theorem d1_223 : DAt B1 223 (.putfield 91) 3 226 := ⟨by decide +kernel, rfl⟩
theorem d1_226 : DAt B1 226 (.aload_n 0) 1 227 := ⟨by decide +kernel, rfl⟩
theorem d1_227 : DAt B1 227 (.iconst 0) 1 228 := ⟨by decide +kernel, rfl⟩
theorem d1_228 : DAt B1 228 (.putfield 94) 3 231 := ⟨by decide +kernel, rfl⟩
theorem d1_231 : DAt B1 231 (.return_) 1 232 := ⟨by decide +kernel, rfl⟩
def B3 : Bdy := ((⟨"LogicalReplicatorL6", "want", "(IZZZ)I"⟩ : MethodName), method_3_code, 4, (some .int), ({ frames := 0, cells := 0, slots := 0, locals := 0 } : Room))
theorem d3_0 : DAt B3 0 (.iload_n 1) 1 1 := ⟨by decide +kernel, rfl⟩
theorem d3_1 : DAt B3 1 (.ifCond .ne 5) 3 4 := ⟨by decide +kernel, rfl⟩
theorem d3_4 : DAt B3 4 (.iconst (-1)) 1 5 := ⟨by decide +kernel, rfl⟩
theorem d3_5 : DAt B3 5 (.ireturn) 1 6 := ⟨by decide +kernel, rfl⟩
theorem d3_6 : DAt B3 6 (.iload_n 2) 1 7 := ⟨by decide +kernel, rfl⟩
theorem d3_7 : DAt B3 7 (.ifCond .eq 6) 3 10 := ⟨by decide +kernel, rfl⟩
theorem d3_10 : DAt B3 10 (.bipush (-2)) 2 12 := ⟨by decide +kernel, rfl⟩
theorem d3_12 : DAt B3 12 (.ireturn) 1 13 := ⟨by decide +kernel, rfl⟩
theorem d3_13 : DAt B3 13 (.iload_n 3) 1 14 := ⟨by decide +kernel, rfl⟩
theorem d3_14 : DAt B3 14 (.ifCond .eq 6) 3 17 := ⟨by decide +kernel, rfl⟩
theorem d3_17 : DAt B3 17 (.bipush (-3)) 2 19 := ⟨by decide +kernel, rfl⟩
theorem d3_19 : DAt B3 19 (.ireturn) 1 20 := ⟨by decide +kernel, rfl⟩
theorem d3_20 : DAt B3 20 (.iload_n 0) 1 21 := ⟨by decide +kernel, rfl⟩
theorem d3_21 : DAt B3 21 (.bipush 64) 2 23 := ⟨by decide +kernel, rfl⟩
theorem d3_23 : DAt B3 23 (.if_icmp .ne 6) 3 26 := ⟨by decide +kernel, rfl⟩
theorem d3_26 : DAt B3 26 (.bipush (-4)) 2 28 := ⟨by decide +kernel, rfl⟩
theorem d3_28 : DAt B3 28 (.ireturn) 1 29 := ⟨by decide +kernel, rfl⟩
theorem d3_29 : DAt B3 29 (.iload_n 0) 1 30 := ⟨by decide +kernel, rfl⟩
theorem d3_30 : DAt B3 30 (.iconst 1) 1 31 := ⟨by decide +kernel, rfl⟩
theorem d3_31 : DAt B3 31 (.iadd) 1 32 := ⟨by decide +kernel, rfl⟩
theorem d3_32 : DAt B3 32 (.ireturn) 1 33 := ⟨by decide +kernel, rfl⟩
def B7 : Bdy := ((⟨"LogicalReplicator", "validSlot", "(I)Z"⟩ : MethodName), prog_1_method_3_code, 2, (some .boolean), ({ frames := 0, cells := 0, slots := 0, locals := 0 } : Room))
theorem d7_0 : DAt B7 0 (.iload_n 1) 1 1 := ⟨by decide +kernel, rfl⟩
theorem d7_1 : DAt B7 1 (.ifCond .lt 21) 3 4 := ⟨by decide +kernel, rfl⟩
theorem d7_4 : DAt B7 4 (.iload_n 1) 1 5 := ⟨by decide +kernel, rfl⟩
theorem d7_5 : DAt B7 5 (.aload_n 0) 1 6 := ⟨by decide +kernel, rfl⟩
theorem d7_6 : DAt B7 6 (.getfield 70) 3 9 := ⟨by decide +kernel, rfl⟩
theorem d7_9 : DAt B7 9 (.if_icmp .ge 13) 3 12 := ⟨by decide +kernel, rfl⟩
theorem d7_12 : DAt B7 12 (.iload_n 1) 1 13 := ⟨by decide +kernel, rfl⟩
theorem d7_13 : DAt B7 13 (.bipush 8) 2 15 := ⟨by decide +kernel, rfl⟩
theorem d7_15 : DAt B7 15 (.if_icmp .ge 7) 3 18 := ⟨by decide +kernel, rfl⟩
theorem d7_18 : DAt B7 18 (.iconst 1) 1 19 := ⟨by decide +kernel, rfl⟩
theorem d7_19 : DAt B7 19 (.goto 4) 3 22 := ⟨by decide +kernel, rfl⟩
theorem d7_22 : DAt B7 22 (.iconst 0) 1 23 := ⟨by decide +kernel, rfl⟩
theorem d7_23 : DAt B7 23 (.ireturn) 1 24 := ⟨by decide +kernel, rfl⟩
def B12 : Bdy := ((⟨"LogicalReplicator", "logFull", "()Z"⟩ : MethodName), prog_1_method_5_code, 1, (some .boolean), ({ frames := 0, cells := 0, slots := 0, locals := 0 } : Room))
theorem d12_0 : DAt B12 0 (.aload_n 0) 1 1 := ⟨by decide +kernel, rfl⟩
theorem d12_1 : DAt B12 1 (.getfield 79) 3 4 := ⟨by decide +kernel, rfl⟩
theorem d12_4 : DAt B12 4 (.aload_n 0) 1 5 := ⟨by decide +kernel, rfl⟩
theorem d12_5 : DAt B12 5 (.getfield 73) 3 8 := ⟨by decide +kernel, rfl⟩
theorem d12_8 : DAt B12 8 (.if_icmp .ge 13) 3 11 := ⟨by decide +kernel, rfl⟩
theorem d12_11 : DAt B12 11 (.aload_n 0) 1 12 := ⟨by decide +kernel, rfl⟩
theorem d12_12 : DAt B12 12 (.getfield 79) 3 15 := ⟨by decide +kernel, rfl⟩
theorem d12_15 : DAt B12 15 (.sipush 128) 3 18 := ⟨by decide +kernel, rfl⟩
theorem d12_18 : DAt B12 18 (.if_icmp .lt 7) 3 21 := ⟨by decide +kernel, rfl⟩
theorem d12_21 : DAt B12 21 (.iconst 1) 1 22 := ⟨by decide +kernel, rfl⟩
theorem d12_22 : DAt B12 22 (.goto 4) 3 25 := ⟨by decide +kernel, rfl⟩
theorem d12_25 : DAt B12 25 (.iconst 0) 1 26 := ⟨by decide +kernel, rfl⟩
theorem d12_26 : DAt B12 26 (.ireturn) 1 27 := ⟨by decide +kernel, rfl⟩
def B13 : Bdy := ((⟨"LogicalReplicator", "append", "(IIII)I"⟩ : MethodName), prog_1_method_7_code, 5, (some .int), ({ frames := 0, cells := 0, slots := 0, locals := 0 } : Room))
theorem d13_0 : DAt B13 0 (.aload_n 0) 1 1 := ⟨by decide +kernel, rfl⟩
theorem d13_1 : DAt B13 1 (.dup) 1 2 := ⟨by decide +kernel, rfl⟩
theorem d13_2 : DAt B13 2 (.getfield 79) 3 5 := ⟨by decide +kernel, rfl⟩
theorem d13_5 : DAt B13 5 (.iconst 1) 1 6 := ⟨by decide +kernel, rfl⟩
theorem d13_6 : DAt B13 6 (.iadd) 1 7 := ⟨by decide +kernel, rfl⟩
theorem d13_7 : DAt B13 7 (.putfield 79) 3 10 := ⟨by decide +kernel, rfl⟩
theorem d13_10 : DAt B13 10 (.aload_n 0) 1 11 := ⟨by decide +kernel, rfl⟩
theorem d13_11 : DAt B13 11 (.getfield 7) 3 14 := ⟨by decide +kernel, rfl⟩
theorem d13_14 : DAt B13 14 (.aload_n 0) 1 15 := ⟨by decide +kernel, rfl⟩
theorem d13_15 : DAt B13 15 (.getfield 79) 3 18 := ⟨by decide +kernel, rfl⟩
theorem d13_18 : DAt B13 18 (.iload_n 1) 1 19 := ⟨by decide +kernel, rfl⟩
theorem d13_19 : DAt B13 19 (.iastore) 1 20 := ⟨by decide +kernel, rfl⟩
theorem d13_20 : DAt B13 20 (.aload_n 0) 1 21 := ⟨by decide +kernel, rfl⟩
theorem d13_21 : DAt B13 21 (.getfield 13) 3 24 := ⟨by decide +kernel, rfl⟩
theorem d13_24 : DAt B13 24 (.aload_n 0) 1 25 := ⟨by decide +kernel, rfl⟩
theorem d13_25 : DAt B13 25 (.getfield 79) 3 28 := ⟨by decide +kernel, rfl⟩
theorem d13_28 : DAt B13 28 (.iload_n 2) 1 29 := ⟨by decide +kernel, rfl⟩
theorem d13_29 : DAt B13 29 (.iastore) 1 30 := ⟨by decide +kernel, rfl⟩
theorem d13_30 : DAt B13 30 (.aload_n 0) 1 31 := ⟨by decide +kernel, rfl⟩
theorem d13_31 : DAt B13 31 (.getfield 16) 3 34 := ⟨by decide +kernel, rfl⟩
theorem d13_34 : DAt B13 34 (.aload_n 0) 1 35 := ⟨by decide +kernel, rfl⟩
theorem d13_35 : DAt B13 35 (.getfield 79) 3 38 := ⟨by decide +kernel, rfl⟩
theorem d13_38 : DAt B13 38 (.iload_n 3) 1 39 := ⟨by decide +kernel, rfl⟩
theorem d13_39 : DAt B13 39 (.iastore) 1 40 := ⟨by decide +kernel, rfl⟩
theorem d13_40 : DAt B13 40 (.aload_n 0) 1 41 := ⟨by decide +kernel, rfl⟩
theorem d13_41 : DAt B13 41 (.getfield 19) 3 44 := ⟨by decide +kernel, rfl⟩
theorem d13_44 : DAt B13 44 (.aload_n 0) 1 45 := ⟨by decide +kernel, rfl⟩
theorem d13_45 : DAt B13 45 (.getfield 79) 3 48 := ⟨by decide +kernel, rfl⟩
theorem d13_48 : DAt B13 48 (.iload 4) 2 50 := ⟨by decide +kernel, rfl⟩
theorem d13_50 : DAt B13 50 (.iastore) 1 51 := ⟨by decide +kernel, rfl⟩
theorem d13_51 : DAt B13 51 (.aload_n 0) 1 52 := ⟨by decide +kernel, rfl⟩
theorem d13_52 : DAt B13 52 (.getfield 22) 3 55 := ⟨by decide +kernel, rfl⟩
theorem d13_55 : DAt B13 55 (.aload_n 0) 1 56 := ⟨by decide +kernel, rfl⟩
theorem d13_56 : DAt B13 56 (.getfield 79) 3 59 := ⟨by decide +kernel, rfl⟩
theorem d13_59 : DAt B13 59 (.iconst 0) 1 60 := ⟨by decide +kernel, rfl⟩
theorem d13_60 : DAt B13 60 (.iastore) 1 61 := ⟨by decide +kernel, rfl⟩
theorem d13_61 : DAt B13 61 (.aload_n 0) 1 62 := ⟨by decide +kernel, rfl⟩
theorem d13_62 : DAt B13 62 (.getfield 79) 3 65 := ⟨by decide +kernel, rfl⟩
theorem d13_65 : DAt B13 65 (.ireturn) 1 66 := ⟨by decide +kernel, rfl⟩
def B11 : Bdy := ((⟨"LogicalReplicator", "begin", "(I)I"⟩ : MethodName), prog_1_method_8_code, 3, (some .int), ({ frames := 1, cells := 0, slots := 0, locals := 16 } : Room))
theorem d11_0 : DAt B11 0 (.aload_n 0) 1 1 := ⟨by decide +kernel, rfl⟩
theorem d11_1 : DAt B11 1 (.iload_n 1) 1 2 := ⟨by decide +kernel, rfl⟩
theorem d11_2 : DAt B11 2 (.invokevirtual 97) 3 5 := ⟨by decide +kernel, rfl⟩
theorem d11_5 : DAt B11 5 (.ifCond .ne 5) 3 8 := ⟨by decide +kernel, rfl⟩
theorem d11_8 : DAt B11 8 (.iconst (-1)) 1 9 := ⟨by decide +kernel, rfl⟩
theorem d11_9 : DAt B11 9 (.ireturn) 1 10 := ⟨by decide +kernel, rfl⟩
theorem d11_10 : DAt B11 10 (.aload_n 0) 1 11 := ⟨by decide +kernel, rfl⟩
theorem d11_11 : DAt B11 11 (.getfield 25) 3 14 := ⟨by decide +kernel, rfl⟩
theorem d11_14 : DAt B11 14 (.iload_n 1) 1 15 := ⟨by decide +kernel, rfl⟩
theorem d11_15 : DAt B11 15 (.baload) 1 16 := ⟨by decide +kernel, rfl⟩
theorem d11_16 : DAt B11 16 (.ifCond .eq 6) 3 19 := ⟨by decide +kernel, rfl⟩
theorem d11_19 : DAt B11 19 (.bipush (-2)) 2 21 := ⟨by decide +kernel, rfl⟩
theorem d11_21 : DAt B11 21 (.ireturn) 1 22 := ⟨by decide +kernel, rfl⟩
theorem d11_22 : DAt B11 22 (.aload_n 0) 1 23 := ⟨by decide +kernel, rfl⟩
theorem d11_23 : DAt B11 23 (.invokevirtual 101) 3 26 := ⟨by decide +kernel, rfl⟩
theorem d11_26 : DAt B11 26 (.ifCond .eq 6) 3 29 := ⟨by decide +kernel, rfl⟩
theorem d11_29 : DAt B11 29 (.bipush (-4)) 2 31 := ⟨by decide +kernel, rfl⟩
theorem d11_31 : DAt B11 31 (.ireturn) 1 32 := ⟨by decide +kernel, rfl⟩
theorem d11_32 : DAt B11 32 (.aload_n 0) 1 33 := ⟨by decide +kernel, rfl⟩
theorem d11_33 : DAt B11 33 (.iconst 1) 1 34 := ⟨by decide +kernel, rfl⟩
theorem d11_34 : DAt B11 34 (.iload_n 1) 1 35 := ⟨by decide +kernel, rfl⟩
theorem d11_35 : DAt B11 35 (.iconst 0) 1 36 := ⟨by decide +kernel, rfl⟩
theorem d11_36 : DAt B11 36 (.iconst 0) 1 37 := ⟨by decide +kernel, rfl⟩
theorem d11_37 : DAt B11 37 (.invokevirtual 105) 3 40 := ⟨by decide +kernel, rfl⟩
theorem d11_40 : DAt B11 40 (.istore_n 2) 1 41 := ⟨by decide +kernel, rfl⟩
theorem d11_41 : DAt B11 41 (.aload_n 0) 1 42 := ⟨by decide +kernel, rfl⟩
theorem d11_42 : DAt B11 42 (.getfield 25) 3 45 := ⟨by decide +kernel, rfl⟩
theorem d11_45 : DAt B11 45 (.iload_n 1) 1 46 := ⟨by decide +kernel, rfl⟩
theorem d11_46 : DAt B11 46 (.iconst 1) 1 47 := ⟨by decide +kernel, rfl⟩
theorem d11_47 : DAt B11 47 (.bastore) 1 48 := ⟨by decide +kernel, rfl⟩
theorem d11_48 : DAt B11 48 (.aload_n 0) 1 49 := ⟨by decide +kernel, rfl⟩
theorem d11_49 : DAt B11 49 (.getfield 29) 3 52 := ⟨by decide +kernel, rfl⟩
theorem d11_52 : DAt B11 52 (.iload_n 1) 1 53 := ⟨by decide +kernel, rfl⟩
theorem d11_53 : DAt B11 53 (.iload_n 2) 1 54 := ⟨by decide +kernel, rfl⟩
theorem d11_54 : DAt B11 54 (.iastore) 1 55 := ⟨by decide +kernel, rfl⟩
theorem d11_55 : DAt B11 55 (.iload_n 2) 1 56 := ⟨by decide +kernel, rfl⟩
theorem d11_56 : DAt B11 56 (.ireturn) 1 57 := ⟨by decide +kernel, rfl⟩
def B10 : Bdy := ((⟨"LogicalReplicator", "logRecord", "(I)J"⟩ : MethodName), prog_1_method_30_code, 6, (some .long), ({ frames := 0, cells := 0, slots := 0, locals := 0 } : Room))
theorem d10_0 : DAt B10 0 (.iload_n 1) 1 1 := ⟨by decide +kernel, rfl⟩
theorem d10_1 : DAt B10 1 (.iconst 1) 1 2 := ⟨by decide +kernel, rfl⟩
theorem d10_2 : DAt B10 2 (.if_icmp .lt 18) 3 5 := ⟨by decide +kernel, rfl⟩
theorem d10_5 : DAt B10 5 (.iload_n 1) 1 6 := ⟨by decide +kernel, rfl⟩
theorem d10_6 : DAt B10 6 (.aload_n 0) 1 7 := ⟨by decide +kernel, rfl⟩
theorem d10_7 : DAt B10 7 (.getfield 79) 3 10 := ⟨by decide +kernel, rfl⟩
theorem d10_10 : DAt B10 10 (.if_icmp .gt 10) 3 13 := ⟨by decide +kernel, rfl⟩
theorem d10_13 : DAt B10 13 (.iload_n 1) 1 14 := ⟨by decide +kernel, rfl⟩
theorem d10_14 : DAt B10 14 (.sipush 129) 3 17 := ⟨by decide +kernel, rfl⟩
theorem d10_17 : DAt B10 17 (.if_icmp .lt 5) 3 20 := ⟨by decide +kernel, rfl⟩
theorem d10_20 : DAt B10 20 (.lconst 0) 1 21 := ⟨by decide +kernel, rfl⟩
theorem d10_21 : DAt B10 21 (.lreturn) 1 22 := ⟨by decide +kernel, rfl⟩
theorem d10_22 : DAt B10 22 (.aload_n 0) 1 23 := ⟨by decide +kernel, rfl⟩
theorem d10_23 : DAt B10 23 (.getfield 7) 3 26 := ⟨by decide +kernel, rfl⟩
theorem d10_26 : DAt B10 26 (.iload_n 1) 1 27 := ⟨by decide +kernel, rfl⟩
theorem d10_27 : DAt B10 27 (.iaload) 1 28 := ⟨by decide +kernel, rfl⟩
theorem d10_28 : DAt B10 28 (.sipush 256) 3 31 := ⟨by decide +kernel, rfl⟩
theorem d10_31 : DAt B10 31 (.aload_n 0) 1 32 := ⟨by decide +kernel, rfl⟩
theorem d10_32 : DAt B10 32 (.getfield 13) 3 35 := ⟨by decide +kernel, rfl⟩
theorem d10_35 : DAt B10 35 (.iload_n 1) 1 36 := ⟨by decide +kernel, rfl⟩
theorem d10_36 : DAt B10 36 (.iaload) 1 37 := ⟨by decide +kernel, rfl⟩
theorem d10_37 : DAt B10 37 (.imul) 1 38 := ⟨by decide +kernel, rfl⟩
theorem d10_38 : DAt B10 38 (.iadd) 1 39 := ⟨by decide +kernel, rfl⟩
theorem d10_39 : DAt B10 39 (.ldc 152) 2 41 := ⟨by decide +kernel, rfl⟩
theorem d10_41 : DAt B10 41 (.aload_n 0) 1 42 := ⟨by decide +kernel, rfl⟩
theorem d10_42 : DAt B10 42 (.getfield 16) 3 45 := ⟨by decide +kernel, rfl⟩
theorem d10_45 : DAt B10 45 (.iload_n 1) 1 46 := ⟨by decide +kernel, rfl⟩
theorem d10_46 : DAt B10 46 (.iaload) 1 47 := ⟨by decide +kernel, rfl⟩
theorem d10_47 : DAt B10 47 (.imul) 1 48 := ⟨by decide +kernel, rfl⟩
theorem d10_48 : DAt B10 48 (.iadd) 1 49 := ⟨by decide +kernel, rfl⟩
theorem d10_49 : DAt B10 49 (.i2l) 1 50 := ⟨by decide +kernel, rfl⟩
theorem d10_50 : DAt B10 50 (.lstore_n 2) 1 51 := ⟨by decide +kernel, rfl⟩
theorem d10_51 : DAt B10 51 (.aload_n 0) 1 52 := ⟨by decide +kernel, rfl⟩
theorem d10_52 : DAt B10 52 (.getfield 19) 3 55 := ⟨by decide +kernel, rfl⟩
theorem d10_55 : DAt B10 55 (.iload_n 1) 1 56 := ⟨by decide +kernel, rfl⟩
theorem d10_56 : DAt B10 56 (.iaload) 1 57 := ⟨by decide +kernel, rfl⟩
theorem d10_57 : DAt B10 57 (.i2l) 1 58 := ⟨by decide +kernel, rfl⟩
theorem d10_58 : DAt B10 58 (.bipush 32) 2 60 := ⟨by decide +kernel, rfl⟩
theorem d10_60 : DAt B10 60 (.lshl) 1 61 := ⟨by decide +kernel, rfl⟩
theorem d10_61 : DAt B10 61 (.lstore 4) 2 63 := ⟨by decide +kernel, rfl⟩
theorem d10_63 : DAt B10 63 (.lload 4) 2 65 := ⟨by decide +kernel, rfl⟩
theorem d10_65 : DAt B10 65 (.lload_n 2) 1 66 := ⟨by decide +kernel, rfl⟩
theorem d10_66 : DAt B10 66 (.lor) 1 67 := ⟨by decide +kernel, rfl⟩
theorem d10_67 : DAt B10 67 (.lreturn) 1 68 := ⟨by decide +kernel, rfl⟩
def B14 : Bdy := ((⟨"LogicalReplicatorL6", "rec", "(IIII)J"⟩ : MethodName), method_2_code, 4, (some .long), ({ frames := 0, cells := 0, slots := 0, locals := 0 } : Room))
theorem d14_0 : DAt B14 0 (.iload_n 3) 1 1 := ⟨by decide +kernel, rfl⟩
theorem d14_1 : DAt B14 1 (.i2l) 1 2 := ⟨by decide +kernel, rfl⟩
theorem d14_2 : DAt B14 2 (.bipush 32) 2 4 := ⟨by decide +kernel, rfl⟩
theorem d14_4 : DAt B14 4 (.lshl) 1 5 := ⟨by decide +kernel, rfl⟩
theorem d14_5 : DAt B14 5 (.iload_n 0) 1 6 := ⟨by decide +kernel, rfl⟩
theorem d14_6 : DAt B14 6 (.sipush 256) 3 9 := ⟨by decide +kernel, rfl⟩
theorem d14_9 : DAt B14 9 (.iload_n 1) 1 10 := ⟨by decide +kernel, rfl⟩
theorem d14_10 : DAt B14 10 (.imul) 1 11 := ⟨by decide +kernel, rfl⟩
theorem d14_11 : DAt B14 11 (.iadd) 1 12 := ⟨by decide +kernel, rfl⟩
theorem d14_12 : DAt B14 12 (.ldc 7) 2 14 := ⟨by decide +kernel, rfl⟩
theorem d14_14 : DAt B14 14 (.iload_n 2) 1 15 := ⟨by decide +kernel, rfl⟩
theorem d14_15 : DAt B14 15 (.imul) 1 16 := ⟨by decide +kernel, rfl⟩
theorem d14_16 : DAt B14 16 (.iadd) 1 17 := ⟨by decide +kernel, rfl⟩
theorem d14_17 : DAt B14 17 (.i2l) 1 18 := ⟨by decide +kernel, rfl⟩
theorem d14_18 : DAt B14 18 (.lor) 1 19 := ⟨by decide +kernel, rfl⟩
theorem d14_19 : DAt B14 19 (.lreturn) 1 20 := ⟨by decide +kernel, rfl⟩
def B6 : Bdy := ((⟨"LogicalReplicator", "checkOpenSlot", "(I)I"⟩ : MethodName), prog_1_method_6_code, 2, (some .int), ({ frames := 1, cells := 0, slots := 0, locals := 13 } : Room))
theorem d6_0 : DAt B6 0 (.aload_n 0) 1 1 := ⟨by decide +kernel, rfl⟩
theorem d6_1 : DAt B6 1 (.iload_n 1) 1 2 := ⟨by decide +kernel, rfl⟩
theorem d6_2 : DAt B6 2 (.invokevirtual 97) 3 5 := ⟨by decide +kernel, rfl⟩
theorem d6_5 : DAt B6 5 (.ifCond .ne 5) 3 8 := ⟨by decide +kernel, rfl⟩
theorem d6_8 : DAt B6 8 (.iconst (-1)) 1 9 := ⟨by decide +kernel, rfl⟩
theorem d6_9 : DAt B6 9 (.ireturn) 1 10 := ⟨by decide +kernel, rfl⟩
theorem d6_10 : DAt B6 10 (.aload_n 0) 1 11 := ⟨by decide +kernel, rfl⟩
theorem d6_11 : DAt B6 11 (.getfield 25) 3 14 := ⟨by decide +kernel, rfl⟩
theorem d6_14 : DAt B6 14 (.iload_n 1) 1 15 := ⟨by decide +kernel, rfl⟩
theorem d6_15 : DAt B6 15 (.baload) 1 16 := ⟨by decide +kernel, rfl⟩
theorem d6_16 : DAt B6 16 (.ifCond .ne 6) 3 19 := ⟨by decide +kernel, rfl⟩
theorem d6_19 : DAt B6 19 (.bipush (-2)) 2 21 := ⟨by decide +kernel, rfl⟩
theorem d6_21 : DAt B6 21 (.ireturn) 1 22 := ⟨by decide +kernel, rfl⟩
theorem d6_22 : DAt B6 22 (.iconst 0) 1 23 := ⟨by decide +kernel, rfl⟩
theorem d6_23 : DAt B6 23 (.ireturn) 1 24 := ⟨by decide +kernel, rfl⟩
def B15 : Bdy := ((⟨"LogicalReplicator", "validKey", "(I)Z"⟩ : MethodName), prog_1_method_4_code, 2, (some .boolean), ({ frames := 0, cells := 0, slots := 0, locals := 0 } : Room))
theorem d15_0 : DAt B15 0 (.iload_n 1) 1 1 := ⟨by decide +kernel, rfl⟩
theorem d15_1 : DAt B15 1 (.ifCond .lt 21) 3 4 := ⟨by decide +kernel, rfl⟩
theorem d15_4 : DAt B15 4 (.iload_n 1) 1 5 := ⟨by decide +kernel, rfl⟩
theorem d15_5 : DAt B15 5 (.aload_n 0) 1 6 := ⟨by decide +kernel, rfl⟩
theorem d15_6 : DAt B15 6 (.getfield 66) 3 9 := ⟨by decide +kernel, rfl⟩
theorem d15_9 : DAt B15 9 (.if_icmp .ge 13) 3 12 := ⟨by decide +kernel, rfl⟩
theorem d15_12 : DAt B15 12 (.iload_n 1) 1 13 := ⟨by decide +kernel, rfl⟩
theorem d15_13 : DAt B15 13 (.bipush 32) 2 15 := ⟨by decide +kernel, rfl⟩
theorem d15_15 : DAt B15 15 (.if_icmp .ge 7) 3 18 := ⟨by decide +kernel, rfl⟩
theorem d15_18 : DAt B15 18 (.iconst 1) 1 19 := ⟨by decide +kernel, rfl⟩
theorem d15_19 : DAt B15 19 (.goto 4) 3 22 := ⟨by decide +kernel, rfl⟩
theorem d15_22 : DAt B15 22 (.iconst 0) 1 23 := ⟨by decide +kernel, rfl⟩
theorem d15_23 : DAt B15 23 (.ireturn) 1 24 := ⟨by decide +kernel, rfl⟩
def B5 : Bdy := ((⟨"LogicalReplicator", "write", "(IIII)I"⟩ : MethodName), prog_1_method_11_code, 6, (some .int), ({ frames := 2, cells := 0, slots := 0, locals := 26 } : Room))
theorem d5_0 : DAt B5 0 (.aload_n 0) 1 1 := ⟨by decide +kernel, rfl⟩
theorem d5_1 : DAt B5 1 (.iload_n 2) 1 2 := ⟨by decide +kernel, rfl⟩
theorem d5_2 : DAt B5 2 (.invokevirtual 112) 3 5 := ⟨by decide +kernel, rfl⟩
theorem d5_5 : DAt B5 5 (.istore 5) 2 7 := ⟨by decide +kernel, rfl⟩
theorem d5_7 : DAt B5 7 (.iload 5) 2 9 := ⟨by decide +kernel, rfl⟩
theorem d5_9 : DAt B5 9 (.ifCond .eq 6) 3 12 := ⟨by decide +kernel, rfl⟩
theorem d5_12 : DAt B5 12 (.iload 5) 2 14 := ⟨by decide +kernel, rfl⟩
theorem d5_14 : DAt B5 14 (.ireturn) 1 15 := ⟨by decide +kernel, rfl⟩
theorem d5_15 : DAt B5 15 (.aload_n 0) 1 16 := ⟨by decide +kernel, rfl⟩
theorem d5_16 : DAt B5 16 (.iload_n 3) 1 17 := ⟨by decide +kernel, rfl⟩
theorem d5_17 : DAt B5 17 (.invokevirtual 116) 3 20 := ⟨by decide +kernel, rfl⟩
theorem d5_20 : DAt B5 20 (.ifCond .ne 6) 3 23 := ⟨by decide +kernel, rfl⟩
theorem d5_23 : DAt B5 23 (.bipush (-3)) 2 25 := ⟨by decide +kernel, rfl⟩
theorem d5_25 : DAt B5 25 (.ireturn) 1 26 := ⟨by decide +kernel, rfl⟩
theorem d5_26 : DAt B5 26 (.aload_n 0) 1 27 := ⟨by decide +kernel, rfl⟩
theorem d5_27 : DAt B5 27 (.invokevirtual 101) 3 30 := ⟨by decide +kernel, rfl⟩
theorem d5_30 : DAt B5 30 (.ifCond .eq 6) 3 33 := ⟨by decide +kernel, rfl⟩
theorem d5_33 : DAt B5 33 (.bipush (-4)) 2 35 := ⟨by decide +kernel, rfl⟩
theorem d5_35 : DAt B5 35 (.ireturn) 1 36 := ⟨by decide +kernel, rfl⟩
theorem d5_36 : DAt B5 36 (.aload_n 0) 1 37 := ⟨by decide +kernel, rfl⟩
theorem d5_37 : DAt B5 37 (.iload_n 1) 1 38 := ⟨by decide +kernel, rfl⟩
theorem d5_38 : DAt B5 38 (.iload_n 2) 1 39 := ⟨by decide +kernel, rfl⟩
theorem d5_39 : DAt B5 39 (.iload_n 3) 1 40 := ⟨by decide +kernel, rfl⟩
theorem d5_40 : DAt B5 40 (.iload 4) 2 42 := ⟨by decide +kernel, rfl⟩
theorem d5_42 : DAt B5 42 (.invokevirtual 105) 3 45 := ⟨by decide +kernel, rfl⟩
theorem d5_45 : DAt B5 45 (.ireturn) 1 46 := ⟨by decide +kernel, rfl⟩
def B23 : Bdy := ((⟨"LogicalReplicator", "del", "(II)I"⟩ : MethodName), prog_1_method_10_code, 3, (some .int), ({ frames := 3, cells := 0, slots := 0, locals := 43 } : Room))
theorem d23_0 : DAt B23 0 (.aload_n 0) 1 1 := ⟨by decide +kernel, rfl⟩
theorem d23_1 : DAt B23 1 (.iconst 3) 1 2 := ⟨by decide +kernel, rfl⟩
theorem d23_2 : DAt B23 2 (.iload_n 1) 1 3 := ⟨by decide +kernel, rfl⟩
theorem d23_3 : DAt B23 3 (.iload_n 2) 1 4 := ⟨by decide +kernel, rfl⟩
theorem d23_4 : DAt B23 4 (.iconst 0) 1 5 := ⟨by decide +kernel, rfl⟩
theorem d23_5 : DAt B23 5 (.invokevirtual 109) 3 8 := ⟨by decide +kernel, rfl⟩
theorem d23_8 : DAt B23 8 (.ireturn) 1 9 := ⟨by decide +kernel, rfl⟩
def B4 : Bdy := ((⟨"LogicalReplicator", "put", "(III)I"⟩ : MethodName), prog_1_method_9_code, 4, (some .int), ({ frames := 3, cells := 0, slots := 0, locals := 43 } : Room))
theorem d4_0 : DAt B4 0 (.aload_n 0) 1 1 := ⟨by decide +kernel, rfl⟩
theorem d4_1 : DAt B4 1 (.iconst 2) 1 2 := ⟨by decide +kernel, rfl⟩
theorem d4_2 : DAt B4 2 (.iload_n 1) 1 3 := ⟨by decide +kernel, rfl⟩
theorem d4_3 : DAt B4 3 (.iload_n 2) 1 4 := ⟨by decide +kernel, rfl⟩
theorem d4_4 : DAt B4 4 (.iload_n 3) 1 5 := ⟨by decide +kernel, rfl⟩
theorem d4_5 : DAt B4 5 (.invokevirtual 109) 3 8 := ⟨by decide +kernel, rfl⟩
theorem d4_8 : DAt B4 8 (.ireturn) 1 9 := ⟨by decide +kernel, rfl⟩
def B21 : Bdy := ((⟨"LogicalReplicator", "abort", "(I)I"⟩ : MethodName), prog_1_method_14_code, 4, (some .int), ({ frames := 2, cells := 0, slots := 0, locals := 26 } : Room))
theorem d21_0 : DAt B21 0 (.aload_n 0) 1 1 := ⟨by decide +kernel, rfl⟩
theorem d21_1 : DAt B21 1 (.iload_n 1) 1 2 := ⟨by decide +kernel, rfl⟩
theorem d21_2 : DAt B21 2 (.invokevirtual 112) 3 5 := ⟨by decide +kernel, rfl⟩
theorem d21_5 : DAt B21 5 (.istore_n 2) 1 6 := ⟨by decide +kernel, rfl⟩
theorem d21_6 : DAt B21 6 (.iload_n 2) 1 7 := ⟨by decide +kernel, rfl⟩
theorem d21_7 : DAt B21 7 (.ifCond .eq 5) 3 10 := ⟨by decide +kernel, rfl⟩
theorem d21_10 : DAt B21 10 (.iload_n 2) 1 11 := ⟨by decide +kernel, rfl⟩
theorem d21_11 : DAt B21 11 (.ireturn) 1 12 := ⟨by decide +kernel, rfl⟩
theorem d21_12 : DAt B21 12 (.aload_n 0) 1 13 := ⟨by decide +kernel, rfl⟩
theorem d21_13 : DAt B21 13 (.invokevirtual 101) 3 16 := ⟨by decide +kernel, rfl⟩
theorem d21_16 : DAt B21 16 (.ifCond .eq 6) 3 19 := ⟨by decide +kernel, rfl⟩
theorem d21_19 : DAt B21 19 (.bipush (-4)) 2 21 := ⟨by decide +kernel, rfl⟩
theorem d21_21 : DAt B21 21 (.ireturn) 1 22 := ⟨by decide +kernel, rfl⟩
theorem d21_22 : DAt B21 22 (.aload_n 0) 1 23 := ⟨by decide +kernel, rfl⟩
theorem d21_23 : DAt B21 23 (.iconst 5) 1 24 := ⟨by decide +kernel, rfl⟩
theorem d21_24 : DAt B21 24 (.iload_n 1) 1 25 := ⟨by decide +kernel, rfl⟩
theorem d21_25 : DAt B21 25 (.iconst 0) 1 26 := ⟨by decide +kernel, rfl⟩
theorem d21_26 : DAt B21 26 (.iconst 0) 1 27 := ⟨by decide +kernel, rfl⟩
theorem d21_27 : DAt B21 27 (.invokevirtual 105) 3 30 := ⟨by decide +kernel, rfl⟩
theorem d21_30 : DAt B21 30 (.istore_n 3) 1 31 := ⟨by decide +kernel, rfl⟩
theorem d21_31 : DAt B21 31 (.aload_n 0) 1 32 := ⟨by decide +kernel, rfl⟩
theorem d21_32 : DAt B21 32 (.getfield 25) 3 35 := ⟨by decide +kernel, rfl⟩
theorem d21_35 : DAt B21 35 (.iload_n 1) 1 36 := ⟨by decide +kernel, rfl⟩
theorem d21_36 : DAt B21 36 (.iconst 0) 1 37 := ⟨by decide +kernel, rfl⟩
theorem d21_37 : DAt B21 37 (.bastore) 1 38 := ⟨by decide +kernel, rfl⟩
theorem d21_38 : DAt B21 38 (.iload_n 3) 1 39 := ⟨by decide +kernel, rfl⟩
theorem d21_39 : DAt B21 39 (.ireturn) 1 40 := ⟨by decide +kernel, rfl⟩
def B27 : Bdy := ((⟨"LogicalReplicator", "applyToPublisher", "(III)V"⟩ : MethodName), prog_1_method_13_code, 7, none, ({ frames := 0, cells := 0, slots := 0, locals := 0 } : Room))
theorem d27_0 : DAt B27 0 (.iload_n 2) 1 1 := ⟨by decide +kernel, rfl⟩
theorem d27_1 : DAt B27 1 (.iconst 1) 1 2 := ⟨by decide +kernel, rfl⟩
theorem d27_2 : DAt B27 2 (.iadd) 1 3 := ⟨by decide +kernel, rfl⟩
theorem d27_3 : DAt B27 3 (.istore 4) 2 5 := ⟨by decide +kernel, rfl⟩
theorem d27_5 : DAt B27 5 (.iload 4) 2 7 := ⟨by decide +kernel, rfl⟩
theorem d27_7 : DAt B27 7 (.iconst 1) 1 8 := ⟨by decide +kernel, rfl⟩
theorem d27_8 : DAt B27 8 (.if_icmp .ge 6) 3 11 := ⟨by decide +kernel, rfl⟩
theorem d27_11 : DAt B27 11 (.iconst 1) 1 12 := ⟨by decide +kernel, rfl⟩
theorem d27_12 : DAt B27 12 (.istore 4) 2 14 := ⟨by decide +kernel, rfl⟩
theorem d27_14 : DAt B27 14 (.iload 4) 2 16 := ⟨by decide +kernel, rfl⟩
theorem d27_16 : DAt B27 16 (.istore 5) 2 18 := ⟨by decide +kernel, rfl⟩
theorem d27_18 : DAt B27 18 (.iload 5) 2 20 := ⟨by decide +kernel, rfl⟩
theorem d27_20 : DAt B27 20 (.iload_n 3) 1 21 := ⟨by decide +kernel, rfl⟩
theorem d27_21 : DAt B27 21 (.if_icmp .ge 110) 3 24 := ⟨by decide +kernel, rfl⟩
theorem d27_24 : DAt B27 24 (.iload 5) 2 26 := ⟨by decide +kernel, rfl⟩
theorem d27_26 : DAt B27 26 (.sipush 129) 3 29 := ⟨by decide +kernel, rfl⟩
theorem d27_29 : DAt B27 29 (.if_icmp .ge 102) 3 32 := ⟨by decide +kernel, rfl⟩
theorem d27_32 : DAt B27 32 (.aload_n 0) 1 33 := ⟨by decide +kernel, rfl⟩
theorem d27_33 : DAt B27 33 (.getfield 13) 3 36 := ⟨by decide +kernel, rfl⟩
theorem d27_36 : DAt B27 36 (.iload 5) 2 38 := ⟨by decide +kernel, rfl⟩
theorem d27_38 : DAt B27 38 (.iaload) 1 39 := ⟨by decide +kernel, rfl⟩
theorem d27_39 : DAt B27 39 (.iload_n 1) 1 40 := ⟨by decide +kernel, rfl⟩
theorem d27_40 : DAt B27 40 (.if_icmp .eq 6) 3 43 := ⟨by decide +kernel, rfl⟩
theorem d27_43 : DAt B27 43 (.goto 82) 3 46 := ⟨by decide +kernel, rfl⟩
theorem d27_46 : DAt B27 46 (.aload_n 0) 1 47 := ⟨by decide +kernel, rfl⟩
theorem d27_47 : DAt B27 47 (.getfield 16) 3 50 := ⟨by decide +kernel, rfl⟩
theorem d27_50 : DAt B27 50 (.iload 5) 2 52 := ⟨by decide +kernel, rfl⟩
theorem d27_52 : DAt B27 52 (.iaload) 1 53 := ⟨by decide +kernel, rfl⟩
theorem d27_53 : DAt B27 53 (.istore 6) 2 55 := ⟨by decide +kernel, rfl⟩
theorem d27_55 : DAt B27 55 (.iload 6) 2 57 := ⟨by decide +kernel, rfl⟩
theorem d27_57 : DAt B27 57 (.ifCond .lt 68) 3 60 := ⟨by decide +kernel, rfl⟩
theorem d27_60 : DAt B27 60 (.iload 6) 2 62 := ⟨by decide +kernel, rfl⟩
theorem d27_62 : DAt B27 62 (.bipush 32) 2 64 := ⟨by decide +kernel, rfl⟩
theorem d27_64 : DAt B27 64 (.if_icmp .lt 6) 3 67 := ⟨by decide +kernel, rfl⟩
theorem d27_67 : DAt B27 67 (.goto 58) 3 70 := ⟨by decide +kernel, rfl⟩
theorem d27_70 : DAt B27 70 (.aload_n 0) 1 71 := ⟨by decide +kernel, rfl⟩
theorem d27_71 : DAt B27 71 (.getfield 7) 3 74 := ⟨by decide +kernel, rfl⟩
theorem d27_74 : DAt B27 74 (.iload 5) 2 76 := ⟨by decide +kernel, rfl⟩
theorem d27_76 : DAt B27 76 (.iaload) 1 77 := ⟨by decide +kernel, rfl⟩
theorem d27_77 : DAt B27 77 (.iconst 2) 1 78 := ⟨by decide +kernel, rfl⟩
theorem d27_78 : DAt B27 78 (.if_icmp .ne 28) 3 81 := ⟨by decide +kernel, rfl⟩
theorem d27_81 : DAt B27 81 (.aload_n 0) 1 82 := ⟨by decide +kernel, rfl⟩
theorem d27_82 : DAt B27 82 (.getfield 32) 3 85 := ⟨by decide +kernel, rfl⟩
theorem d27_85 : DAt B27 85 (.iload 6) 2 87 := ⟨by decide +kernel, rfl⟩
theorem d27_87 : DAt B27 87 (.iconst 1) 1 88 := ⟨by decide +kernel, rfl⟩
theorem d27_88 : DAt B27 88 (.bastore) 1 89 := ⟨by decide +kernel, rfl⟩
theorem d27_89 : DAt B27 89 (.aload_n 0) 1 90 := ⟨by decide +kernel, rfl⟩
theorem d27_90 : DAt B27 90 (.getfield 35) 3 93 := ⟨by decide +kernel, rfl⟩
theorem d27_93 : DAt B27 93 (.iload 6) 2 95 := ⟨by decide +kernel, rfl⟩
theorem d27_95 : DAt B27 95 (.aload_n 0) 1 96 := ⟨by decide +kernel, rfl⟩
theorem d27_96 : DAt B27 96 (.getfield 19) 3 99 := ⟨by decide +kernel, rfl⟩
theorem d27_99 : DAt B27 99 (.iload 5) 2 101 := ⟨by decide +kernel, rfl⟩
theorem d27_101 : DAt B27 101 (.iaload) 1 102 := ⟨by decide +kernel, rfl⟩
theorem d27_102 : DAt B27 102 (.iastore) 1 103 := ⟨by decide +kernel, rfl⟩
theorem d27_103 : DAt B27 103 (.goto 22) 3 106 := ⟨by decide +kernel, rfl⟩
theorem d27_106 : DAt B27 106 (.aload_n 0) 1 107 := ⟨by decide +kernel, rfl⟩
theorem d27_107 : DAt B27 107 (.getfield 7) 3 110 := ⟨by decide +kernel, rfl⟩
theorem d27_110 : DAt B27 110 (.iload 5) 2 112 := ⟨by decide +kernel, rfl⟩
theorem d27_112 : DAt B27 112 (.iaload) 1 113 := ⟨by decide +kernel, rfl⟩
theorem d27_113 : DAt B27 113 (.iconst 3) 1 114 := ⟨by decide +kernel, rfl⟩
theorem d27_114 : DAt B27 114 (.if_icmp .ne 11) 3 117 := ⟨by decide +kernel, rfl⟩
theorem d27_117 : DAt B27 117 (.aload_n 0) 1 118 := ⟨by decide +kernel, rfl⟩
theorem d27_118 : DAt B27 118 (.getfield 32) 3 121 := ⟨by decide +kernel, rfl⟩
theorem d27_121 : DAt B27 121 (.iload 6) 2 123 := ⟨by decide +kernel, rfl⟩
theorem d27_123 : DAt B27 123 (.iconst 0) 1 124 := ⟨by decide +kernel, rfl⟩
theorem d27_124 : DAt B27 124 (.bastore) 1 125 := ⟨by decide +kernel, rfl⟩
theorem d27_125 : DAt B27 125 (.iinc 5 1) 3 128 := ⟨by decide +kernel, rfl⟩
theorem d27_128 : DAt B27 128 (.goto (-110)) 3 131 := ⟨by decide +kernel, rfl⟩
theorem d27_131 : DAt B27 131 (.return_) 1 132 := ⟨by decide +kernel, rfl⟩
def B25 : Bdy := ((⟨"LogicalReplicator", "commit", "(I)I"⟩ : MethodName), prog_1_method_12_code, 5, (some .int), ({ frames := 2, cells := 0, slots := 0, locals := 26 } : Room))
theorem d25_0 : DAt B25 0 (.aload_n 0) 1 1 := ⟨by decide +kernel, rfl⟩
theorem d25_1 : DAt B25 1 (.iload_n 1) 1 2 := ⟨by decide +kernel, rfl⟩
theorem d25_2 : DAt B25 2 (.invokevirtual 112) 3 5 := ⟨by decide +kernel, rfl⟩
theorem d25_5 : DAt B25 5 (.istore_n 2) 1 6 := ⟨by decide +kernel, rfl⟩
theorem d25_6 : DAt B25 6 (.iload_n 2) 1 7 := ⟨by decide +kernel, rfl⟩
theorem d25_7 : DAt B25 7 (.ifCond .eq 5) 3 10 := ⟨by decide +kernel, rfl⟩
theorem d25_10 : DAt B25 10 (.iload_n 2) 1 11 := ⟨by decide +kernel, rfl⟩
theorem d25_11 : DAt B25 11 (.ireturn) 1 12 := ⟨by decide +kernel, rfl⟩
theorem d25_12 : DAt B25 12 (.aload_n 0) 1 13 := ⟨by decide +kernel, rfl⟩
theorem d25_13 : DAt B25 13 (.invokevirtual 101) 3 16 := ⟨by decide +kernel, rfl⟩
theorem d25_16 : DAt B25 16 (.ifCond .eq 6) 3 19 := ⟨by decide +kernel, rfl⟩
theorem d25_19 : DAt B25 19 (.bipush (-4)) 2 21 := ⟨by decide +kernel, rfl⟩
theorem d25_21 : DAt B25 21 (.ireturn) 1 22 := ⟨by decide +kernel, rfl⟩
theorem d25_22 : DAt B25 22 (.aload_n 0) 1 23 := ⟨by decide +kernel, rfl⟩
theorem d25_23 : DAt B25 23 (.getfield 29) 3 26 := ⟨by decide +kernel, rfl⟩
theorem d25_26 : DAt B25 26 (.iload_n 1) 1 27 := ⟨by decide +kernel, rfl⟩
theorem d25_27 : DAt B25 27 (.iaload) 1 28 := ⟨by decide +kernel, rfl⟩
theorem d25_28 : DAt B25 28 (.istore_n 3) 1 29 := ⟨by decide +kernel, rfl⟩
theorem d25_29 : DAt B25 29 (.aload_n 0) 1 30 := ⟨by decide +kernel, rfl⟩
theorem d25_30 : DAt B25 30 (.iconst 4) 1 31 := ⟨by decide +kernel, rfl⟩
theorem d25_31 : DAt B25 31 (.iload_n 1) 1 32 := ⟨by decide +kernel, rfl⟩
theorem d25_32 : DAt B25 32 (.iconst 0) 1 33 := ⟨by decide +kernel, rfl⟩
theorem d25_33 : DAt B25 33 (.iconst 0) 1 34 := ⟨by decide +kernel, rfl⟩
theorem d25_34 : DAt B25 34 (.invokevirtual 105) 3 37 := ⟨by decide +kernel, rfl⟩
theorem d25_37 : DAt B25 37 (.istore 4) 2 39 := ⟨by decide +kernel, rfl⟩
theorem d25_39 : DAt B25 39 (.aload_n 0) 1 40 := ⟨by decide +kernel, rfl⟩
theorem d25_40 : DAt B25 40 (.getfield 22) 3 43 := ⟨by decide +kernel, rfl⟩
theorem d25_43 : DAt B25 43 (.iload 4) 2 45 := ⟨by decide +kernel, rfl⟩
theorem d25_45 : DAt B25 45 (.iload_n 3) 1 46 := ⟨by decide +kernel, rfl⟩
theorem d25_46 : DAt B25 46 (.iastore) 1 47 := ⟨by decide +kernel, rfl⟩
theorem d25_47 : DAt B25 47 (.aload_n 0) 1 48 := ⟨by decide +kernel, rfl⟩
theorem d25_48 : DAt B25 48 (.iload_n 1) 1 49 := ⟨by decide +kernel, rfl⟩
theorem d25_49 : DAt B25 49 (.iload_n 3) 1 50 := ⟨by decide +kernel, rfl⟩
theorem d25_50 : DAt B25 50 (.iload 4) 2 52 := ⟨by decide +kernel, rfl⟩
theorem d25_52 : DAt B25 52 (.invokevirtual 119) 3 55 := ⟨by decide +kernel, rfl⟩
theorem d25_55 : DAt B25 55 (.aload_n 0) 1 56 := ⟨by decide +kernel, rfl⟩
theorem d25_56 : DAt B25 56 (.getfield 25) 3 59 := ⟨by decide +kernel, rfl⟩
theorem d25_59 : DAt B25 59 (.iload_n 1) 1 60 := ⟨by decide +kernel, rfl⟩
theorem d25_60 : DAt B25 60 (.iconst 0) 1 61 := ⟨by decide +kernel, rfl⟩
theorem d25_61 : DAt B25 61 (.bastore) 1 62 := ⟨by decide +kernel, rfl⟩
theorem d25_62 : DAt B25 62 (.iload 4) 2 64 := ⟨by decide +kernel, rfl⟩
theorem d25_64 : DAt B25 64 (.ireturn) 1 65 := ⟨by decide +kernel, rfl⟩
def B9 : Bdy := ((⟨"LogicalReplicator", "countOpen", "()I"⟩ : MethodName), prog_1_method_32_code, 3, (some .int), ({ frames := 0, cells := 0, slots := 0, locals := 0 } : Room))
theorem d9_0 : DAt B9 0 (.iconst 0) 1 1 := ⟨by decide +kernel, rfl⟩
theorem d9_1 : DAt B9 1 (.istore_n 1) 1 2 := ⟨by decide +kernel, rfl⟩
theorem d9_2 : DAt B9 2 (.iconst 0) 1 3 := ⟨by decide +kernel, rfl⟩
theorem d9_3 : DAt B9 3 (.istore_n 2) 1 4 := ⟨by decide +kernel, rfl⟩
theorem d9_4 : DAt B9 4 (.iload_n 2) 1 5 := ⟨by decide +kernel, rfl⟩
theorem d9_5 : DAt B9 5 (.aload_n 0) 1 6 := ⟨by decide +kernel, rfl⟩
theorem d9_6 : DAt B9 6 (.getfield 70) 3 9 := ⟨by decide +kernel, rfl⟩
theorem d9_9 : DAt B9 9 (.if_icmp .ge 27) 3 12 := ⟨by decide +kernel, rfl⟩
theorem d9_12 : DAt B9 12 (.iload_n 2) 1 13 := ⟨by decide +kernel, rfl⟩
theorem d9_13 : DAt B9 13 (.bipush 8) 2 15 := ⟨by decide +kernel, rfl⟩
theorem d9_15 : DAt B9 15 (.if_icmp .ge 21) 3 18 := ⟨by decide +kernel, rfl⟩
theorem d9_18 : DAt B9 18 (.aload_n 0) 1 19 := ⟨by decide +kernel, rfl⟩
theorem d9_19 : DAt B9 19 (.getfield 25) 3 22 := ⟨by decide +kernel, rfl⟩
theorem d9_22 : DAt B9 22 (.iload_n 2) 1 23 := ⟨by decide +kernel, rfl⟩
theorem d9_23 : DAt B9 23 (.baload) 1 24 := ⟨by decide +kernel, rfl⟩
theorem d9_24 : DAt B9 24 (.ifCond .eq 6) 3 27 := ⟨by decide +kernel, rfl⟩
theorem d9_27 : DAt B9 27 (.iinc 1 1) 3 30 := ⟨by decide +kernel, rfl⟩
theorem d9_30 : DAt B9 30 (.iinc 2 1) 3 33 := ⟨by decide +kernel, rfl⟩
theorem d9_33 : DAt B9 33 (.goto (-29)) 3 36 := ⟨by decide +kernel, rfl⟩
theorem d9_36 : DAt B9 36 (.iload_n 1) 1 37 := ⟨by decide +kernel, rfl⟩
theorem d9_37 : DAt B9 37 (.ireturn) 1 38 := ⟨by decide +kernel, rfl⟩
def B8 : Bdy := ((⟨"LogicalReplicator", "info", "(I)I"⟩ : MethodName), prog_1_method_31_code, 2, (some .int), ({ frames := 1, cells := 0, slots := 0, locals := 14 } : Room))
theorem d8_0 : DAt B8 0 (.iload_n 1) 1 1 := ⟨by decide +kernel, rfl⟩
theorem d8_1 : DAt B8 1 (.tableswitch 87 0 7 #[47, 52, 57, 62, 67, 72, 77, 82]) 47 48 := ⟨by decide +kernel, rfl⟩
theorem d8_48 : DAt B8 48 (.aload_n 0) 1 49 := ⟨by decide +kernel, rfl⟩
theorem d8_49 : DAt B8 49 (.getfield 79) 3 52 := ⟨by decide +kernel, rfl⟩
theorem d8_52 : DAt B8 52 (.ireturn) 1 53 := ⟨by decide +kernel, rfl⟩
theorem d8_53 : DAt B8 53 (.aload_n 0) 1 54 := ⟨by decide +kernel, rfl⟩
theorem d8_54 : DAt B8 54 (.invokevirtual 153) 3 57 := ⟨by decide +kernel, rfl⟩
theorem d8_57 : DAt B8 57 (.ireturn) 1 58 := ⟨by decide +kernel, rfl⟩
theorem d8_58 : DAt B8 58 (.aload_n 0) 1 59 := ⟨by decide +kernel, rfl⟩
theorem d8_59 : DAt B8 59 (.getfield 82) 3 62 := ⟨by decide +kernel, rfl⟩
theorem d8_62 : DAt B8 62 (.ireturn) 1 63 := ⟨by decide +kernel, rfl⟩
theorem d8_63 : DAt B8 63 (.aload_n 0) 1 64 := ⟨by decide +kernel, rfl⟩
theorem d8_64 : DAt B8 64 (.getfield 94) 3 67 := ⟨by decide +kernel, rfl⟩
theorem d8_67 : DAt B8 67 (.ireturn) 1 68 := ⟨by decide +kernel, rfl⟩
theorem d8_68 : DAt B8 68 (.aload_n 0) 1 69 := ⟨by decide +kernel, rfl⟩
theorem d8_69 : DAt B8 69 (.getfield 85) 3 72 := ⟨by decide +kernel, rfl⟩
theorem d8_72 : DAt B8 72 (.ireturn) 1 73 := ⟨by decide +kernel, rfl⟩
theorem d8_73 : DAt B8 73 (.aload_n 0) 1 74 := ⟨by decide +kernel, rfl⟩
theorem d8_74 : DAt B8 74 (.getfield 88) 3 77 := ⟨by decide +kernel, rfl⟩
theorem d8_77 : DAt B8 77 (.ireturn) 1 78 := ⟨by decide +kernel, rfl⟩
theorem d8_78 : DAt B8 78 (.aload_n 0) 1 79 := ⟨by decide +kernel, rfl⟩
theorem d8_83 : DAt B8 83 (.aload_n 0) 1 84 := ⟨by decide +kernel, rfl⟩
theorem d8_88 : DAt B8 88 (.iconst (-1)) 1 89 := ⟨by decide +kernel, rfl⟩
theorem d8_89 : DAt B8 89 (.ireturn) 1 90 := ⟨by decide +kernel, rfl⟩
def B17 : Bdy := ((⟨"LogicalReplicator", "nextCommit", "(I)I"⟩ : MethodName), prog_1_method_16_code, 4, (some .int), ({ frames := 0, cells := 0, slots := 0, locals := 0 } : Room))
theorem d17_0 : DAt B17 0 (.iload_n 1) 1 1 := ⟨by decide +kernel, rfl⟩
theorem d17_1 : DAt B17 1 (.iconst 1) 1 2 := ⟨by decide +kernel, rfl⟩
theorem d17_2 : DAt B17 2 (.iadd) 1 3 := ⟨by decide +kernel, rfl⟩
theorem d17_3 : DAt B17 3 (.istore_n 2) 1 4 := ⟨by decide +kernel, rfl⟩
theorem d17_4 : DAt B17 4 (.iload_n 2) 1 5 := ⟨by decide +kernel, rfl⟩
theorem d17_5 : DAt B17 5 (.iconst 1) 1 6 := ⟨by decide +kernel, rfl⟩
theorem d17_6 : DAt B17 6 (.if_icmp .ge 5) 3 9 := ⟨by decide +kernel, rfl⟩
theorem d17_9 : DAt B17 9 (.iconst 1) 1 10 := ⟨by decide +kernel, rfl⟩
theorem d17_10 : DAt B17 10 (.istore_n 2) 1 11 := ⟨by decide +kernel, rfl⟩
theorem d17_11 : DAt B17 11 (.iload_n 2) 1 12 := ⟨by decide +kernel, rfl⟩
theorem d17_12 : DAt B17 12 (.istore_n 3) 1 13 := ⟨by decide +kernel, rfl⟩
theorem d17_13 : DAt B17 13 (.iload_n 3) 1 14 := ⟨by decide +kernel, rfl⟩
theorem d17_14 : DAt B17 14 (.aload_n 0) 1 15 := ⟨by decide +kernel, rfl⟩
theorem d17_15 : DAt B17 15 (.getfield 79) 3 18 := ⟨by decide +kernel, rfl⟩
theorem d17_18 : DAt B17 18 (.if_icmp .gt 28) 3 21 := ⟨by decide +kernel, rfl⟩
theorem d17_21 : DAt B17 21 (.iload_n 3) 1 22 := ⟨by decide +kernel, rfl⟩
theorem d17_22 : DAt B17 22 (.sipush 129) 3 25 := ⟨by decide +kernel, rfl⟩
theorem d17_25 : DAt B17 25 (.if_icmp .ge 21) 3 28 := ⟨by decide +kernel, rfl⟩
theorem d17_28 : DAt B17 28 (.aload_n 0) 1 29 := ⟨by decide +kernel, rfl⟩
theorem d17_29 : DAt B17 29 (.getfield 7) 3 32 := ⟨by decide +kernel, rfl⟩
theorem d17_32 : DAt B17 32 (.iload_n 3) 1 33 := ⟨by decide +kernel, rfl⟩
theorem d17_33 : DAt B17 33 (.iaload) 1 34 := ⟨by decide +kernel, rfl⟩
theorem d17_34 : DAt B17 34 (.iconst 4) 1 35 := ⟨by decide +kernel, rfl⟩
theorem d17_35 : DAt B17 35 (.if_icmp .ne 5) 3 38 := ⟨by decide +kernel, rfl⟩
theorem d17_38 : DAt B17 38 (.iload_n 3) 1 39 := ⟨by decide +kernel, rfl⟩
theorem d17_39 : DAt B17 39 (.ireturn) 1 40 := ⟨by decide +kernel, rfl⟩
theorem d17_40 : DAt B17 40 (.iinc 3 1) 3 43 := ⟨by decide +kernel, rfl⟩
theorem d17_43 : DAt B17 43 (.goto (-30)) 3 46 := ⟨by decide +kernel, rfl⟩
theorem d17_46 : DAt B17 46 (.iconst 0) 1 47 := ⟨by decide +kernel, rfl⟩
theorem d17_47 : DAt B17 47 (.ireturn) 1 48 := ⟨by decide +kernel, rfl⟩
def B29 : Bdy := ((⟨"LogicalReplicator", "enqueue", "(IIII)V"⟩ : MethodName), prog_1_method_18_code, 6, none, ({ frames := 0, cells := 0, slots := 0, locals := 0 } : Room))
theorem d29_0 : DAt B29 0 (.aload_n 0) 1 1 := ⟨by decide +kernel, rfl⟩
theorem d29_1 : DAt B29 1 (.getfield 94) 3 4 := ⟨by decide +kernel, rfl⟩
theorem d29_4 : DAt B29 4 (.sipush 128) 3 7 := ⟨by decide +kernel, rfl⟩
theorem d29_7 : DAt B29 7 (.if_icmp .lt 4) 3 10 := ⟨by decide +kernel, rfl⟩
theorem d29_10 : DAt B29 10 (.return_) 1 11 := ⟨by decide +kernel, rfl⟩
theorem d29_11 : DAt B29 11 (.aload_n 0) 1 12 := ⟨by decide +kernel, rfl⟩
theorem d29_12 : DAt B29 12 (.getfield 91) 3 15 := ⟨by decide +kernel, rfl⟩
theorem d29_15 : DAt B29 15 (.aload_n 0) 1 16 := ⟨by decide +kernel, rfl⟩
theorem d29_16 : DAt B29 16 (.getfield 94) 3 19 := ⟨by decide +kernel, rfl⟩
theorem d29_19 : DAt B29 19 (.iadd) 1 20 := ⟨by decide +kernel, rfl⟩
theorem d29_20 : DAt B29 20 (.sipush 128) 3 23 := ⟨by decide +kernel, rfl⟩
theorem d29_23 : DAt B29 23 (.irem) 1 24 := ⟨by decide +kernel, rfl⟩
theorem d29_24 : DAt B29 24 (.istore 5) 2 26 := ⟨by decide +kernel, rfl⟩
theorem d29_26 : DAt B29 26 (.iload 5) 2 28 := ⟨by decide +kernel, rfl⟩
theorem d29_28 : DAt B29 28 (.ifCond .ge 6) 3 31 := ⟨by decide +kernel, rfl⟩
theorem d29_31 : DAt B29 31 (.iconst 0) 1 32 := ⟨by decide +kernel, rfl⟩
theorem d29_32 : DAt B29 32 (.istore 5) 2 34 := ⟨by decide +kernel, rfl⟩
theorem d29_34 : DAt B29 34 (.aload_n 0) 1 35 := ⟨by decide +kernel, rfl⟩
theorem d29_35 : DAt B29 35 (.getfield 50) 3 38 := ⟨by decide +kernel, rfl⟩
theorem d29_38 : DAt B29 38 (.iload 5) 2 40 := ⟨by decide +kernel, rfl⟩
theorem d29_40 : DAt B29 40 (.iload_n 1) 1 41 := ⟨by decide +kernel, rfl⟩
theorem d29_41 : DAt B29 41 (.iastore) 1 42 := ⟨by decide +kernel, rfl⟩
theorem d29_42 : DAt B29 42 (.aload_n 0) 1 43 := ⟨by decide +kernel, rfl⟩
theorem d29_43 : DAt B29 43 (.getfield 53) 3 46 := ⟨by decide +kernel, rfl⟩
theorem d29_46 : DAt B29 46 (.iload 5) 2 48 := ⟨by decide +kernel, rfl⟩
theorem d29_48 : DAt B29 48 (.iload_n 2) 1 49 := ⟨by decide +kernel, rfl⟩
theorem d29_49 : DAt B29 49 (.iastore) 1 50 := ⟨by decide +kernel, rfl⟩
theorem d29_50 : DAt B29 50 (.aload_n 0) 1 51 := ⟨by decide +kernel, rfl⟩
theorem d29_51 : DAt B29 51 (.getfield 56) 3 54 := ⟨by decide +kernel, rfl⟩
theorem d29_54 : DAt B29 54 (.iload 5) 2 56 := ⟨by decide +kernel, rfl⟩
theorem d29_56 : DAt B29 56 (.iload_n 3) 1 57 := ⟨by decide +kernel, rfl⟩
theorem d29_57 : DAt B29 57 (.iastore) 1 58 := ⟨by decide +kernel, rfl⟩
theorem d29_58 : DAt B29 58 (.aload_n 0) 1 59 := ⟨by decide +kernel, rfl⟩
theorem d29_59 : DAt B29 59 (.getfield 59) 3 62 := ⟨by decide +kernel, rfl⟩
theorem d29_62 : DAt B29 62 (.iload 5) 2 64 := ⟨by decide +kernel, rfl⟩
theorem d29_64 : DAt B29 64 (.iload 4) 2 66 := ⟨by decide +kernel, rfl⟩
theorem d29_66 : DAt B29 66 (.iastore) 1 67 := ⟨by decide +kernel, rfl⟩
theorem d29_67 : DAt B29 67 (.aload_n 0) 1 68 := ⟨by decide +kernel, rfl⟩
theorem d29_68 : DAt B29 68 (.dup) 1 69 := ⟨by decide +kernel, rfl⟩
theorem d29_69 : DAt B29 69 (.getfield 94) 3 72 := ⟨by decide +kernel, rfl⟩
theorem d29_72 : DAt B29 72 (.iconst 1) 1 73 := ⟨by decide +kernel, rfl⟩
theorem d29_73 : DAt B29 73 (.iadd) 1 74 := ⟨by decide +kernel, rfl⟩
theorem d29_74 : DAt B29 74 (.putfield 94) 3 77 := ⟨by decide +kernel, rfl⟩
theorem d29_77 : DAt B29 77 (.return_) 1 78 := ⟨by decide +kernel, rfl⟩
def B28 : Bdy := ((⟨"LogicalReplicator", "emitTransaction", "(I)V"⟩ : MethodName), prog_1_method_17_code, 6, none, ({ frames := 1, cells := 0, slots := 0, locals := 17 } : Room))
theorem d28_0 : DAt B28 0 (.aload_n 0) 1 1 := ⟨by decide +kernel, rfl⟩
theorem d28_1 : DAt B28 1 (.getfield 13) 3 4 := ⟨by decide +kernel, rfl⟩
theorem d28_4 : DAt B28 4 (.iload_n 1) 1 5 := ⟨by decide +kernel, rfl⟩
theorem d28_5 : DAt B28 5 (.iaload) 1 6 := ⟨by decide +kernel, rfl⟩
theorem d28_6 : DAt B28 6 (.istore_n 2) 1 7 := ⟨by decide +kernel, rfl⟩
theorem d28_7 : DAt B28 7 (.aload_n 0) 1 8 := ⟨by decide +kernel, rfl⟩
theorem d28_8 : DAt B28 8 (.getfield 22) 3 11 := ⟨by decide +kernel, rfl⟩
theorem d28_11 : DAt B28 11 (.iload_n 1) 1 12 := ⟨by decide +kernel, rfl⟩
theorem d28_12 : DAt B28 12 (.iaload) 1 13 := ⟨by decide +kernel, rfl⟩
theorem d28_13 : DAt B28 13 (.iconst 1) 1 14 := ⟨by decide +kernel, rfl⟩
theorem d28_14 : DAt B28 14 (.iadd) 1 15 := ⟨by decide +kernel, rfl⟩
theorem d28_15 : DAt B28 15 (.istore_n 3) 1 16 := ⟨by decide +kernel, rfl⟩
theorem d28_16 : DAt B28 16 (.iload_n 3) 1 17 := ⟨by decide +kernel, rfl⟩
theorem d28_17 : DAt B28 17 (.iconst 1) 1 18 := ⟨by decide +kernel, rfl⟩
theorem d28_18 : DAt B28 18 (.if_icmp .ge 5) 3 21 := ⟨by decide +kernel, rfl⟩
theorem d28_21 : DAt B28 21 (.iconst 1) 1 22 := ⟨by decide +kernel, rfl⟩
theorem d28_22 : DAt B28 22 (.istore_n 3) 1 23 := ⟨by decide +kernel, rfl⟩
theorem d28_23 : DAt B28 23 (.iload_n 3) 1 24 := ⟨by decide +kernel, rfl⟩
theorem d28_24 : DAt B28 24 (.istore 4) 2 26 := ⟨by decide +kernel, rfl⟩
theorem d28_26 : DAt B28 26 (.iload 4) 2 28 := ⟨by decide +kernel, rfl⟩
theorem d28_28 : DAt B28 28 (.iload_n 1) 1 29 := ⟨by decide +kernel, rfl⟩
theorem d28_29 : DAt B28 29 (.if_icmp .ge 73) 3 32 := ⟨by decide +kernel, rfl⟩
theorem d28_32 : DAt B28 32 (.iload 4) 2 34 := ⟨by decide +kernel, rfl⟩
theorem d28_34 : DAt B28 34 (.sipush 129) 3 37 := ⟨by decide +kernel, rfl⟩
theorem d28_37 : DAt B28 37 (.if_icmp .ge 65) 3 40 := ⟨by decide +kernel, rfl⟩
theorem d28_40 : DAt B28 40 (.aload_n 0) 1 41 := ⟨by decide +kernel, rfl⟩
theorem d28_41 : DAt B28 41 (.getfield 13) 3 44 := ⟨by decide +kernel, rfl⟩
theorem d28_44 : DAt B28 44 (.iload 4) 2 46 := ⟨by decide +kernel, rfl⟩
theorem d28_46 : DAt B28 46 (.iaload) 1 47 := ⟨by decide +kernel, rfl⟩
theorem d28_47 : DAt B28 47 (.iload_n 2) 1 48 := ⟨by decide +kernel, rfl⟩
theorem d28_48 : DAt B28 48 (.if_icmp .eq 6) 3 51 := ⟨by decide +kernel, rfl⟩
theorem d28_51 : DAt B28 51 (.goto 45) 3 54 := ⟨by decide +kernel, rfl⟩
theorem d28_54 : DAt B28 54 (.aload_n 0) 1 55 := ⟨by decide +kernel, rfl⟩
theorem d28_55 : DAt B28 55 (.getfield 7) 3 58 := ⟨by decide +kernel, rfl⟩
theorem d28_58 : DAt B28 58 (.iload 4) 2 60 := ⟨by decide +kernel, rfl⟩
theorem d28_60 : DAt B28 60 (.iaload) 1 61 := ⟨by decide +kernel, rfl⟩
theorem d28_61 : DAt B28 61 (.istore 5) 2 63 := ⟨by decide +kernel, rfl⟩
theorem d28_63 : DAt B28 63 (.iload 5) 2 65 := ⟨by decide +kernel, rfl⟩
theorem d28_65 : DAt B28 65 (.iconst 2) 1 66 := ⟨by decide +kernel, rfl⟩
theorem d28_66 : DAt B28 66 (.if_icmp .eq 9) 3 69 := ⟨by decide +kernel, rfl⟩
theorem d28_69 : DAt B28 69 (.iload 5) 2 71 := ⟨by decide +kernel, rfl⟩
theorem d28_71 : DAt B28 71 (.iconst 3) 1 72 := ⟨by decide +kernel, rfl⟩
theorem d28_72 : DAt B28 72 (.if_icmp .ne 24) 3 75 := ⟨by decide +kernel, rfl⟩
theorem d28_75 : DAt B28 75 (.aload_n 0) 1 76 := ⟨by decide +kernel, rfl⟩
theorem d28_76 : DAt B28 76 (.iload 5) 2 78 := ⟨by decide +kernel, rfl⟩
theorem d28_78 : DAt B28 78 (.aload_n 0) 1 79 := ⟨by decide +kernel, rfl⟩
theorem d28_79 : DAt B28 79 (.getfield 16) 3 82 := ⟨by decide +kernel, rfl⟩
theorem d28_82 : DAt B28 82 (.iload 4) 2 84 := ⟨by decide +kernel, rfl⟩
theorem d28_84 : DAt B28 84 (.iaload) 1 85 := ⟨by decide +kernel, rfl⟩
theorem d28_85 : DAt B28 85 (.aload_n 0) 1 86 := ⟨by decide +kernel, rfl⟩
theorem d28_86 : DAt B28 86 (.getfield 19) 3 89 := ⟨by decide +kernel, rfl⟩
theorem d28_89 : DAt B28 89 (.iload 4) 2 91 := ⟨by decide +kernel, rfl⟩
theorem d28_91 : DAt B28 91 (.iaload) 1 92 := ⟨by decide +kernel, rfl⟩
theorem d28_92 : DAt B28 92 (.iload_n 1) 1 93 := ⟨by decide +kernel, rfl⟩
theorem d28_93 : DAt B28 93 (.invokevirtual 130) 3 96 := ⟨by decide +kernel, rfl⟩
theorem d28_96 : DAt B28 96 (.iinc 4 1) 3 99 := ⟨by decide +kernel, rfl⟩
theorem d28_99 : DAt B28 99 (.goto (-73)) 3 102 := ⟨by decide +kernel, rfl⟩
theorem d28_102 : DAt B28 102 (.aload_n 0) 1 103 := ⟨by decide +kernel, rfl⟩
theorem d28_103 : DAt B28 103 (.iconst 4) 1 104 := ⟨by decide +kernel, rfl⟩
theorem d28_104 : DAt B28 104 (.iconst 0) 1 105 := ⟨by decide +kernel, rfl⟩
theorem d28_105 : DAt B28 105 (.iconst 0) 1 106 := ⟨by decide +kernel, rfl⟩
theorem d28_106 : DAt B28 106 (.iload_n 1) 1 107 := ⟨by decide +kernel, rfl⟩
theorem d28_107 : DAt B28 107 (.invokevirtual 130) 3 110 := ⟨by decide +kernel, rfl⟩
theorem d28_110 : DAt B28 110 (.return_) 1 111 := ⟨by decide +kernel, rfl⟩
def B16 : Bdy := ((⟨"LogicalReplicator", "stream", "(I)I"⟩ : MethodName), prog_1_method_15_code, 5, (some .int), ({ frames := 2, cells := 0, slots := 0, locals := 34 } : Room))
theorem d16_0 : DAt B16 0 (.iload_n 1) 1 1 := ⟨by decide +kernel, rfl⟩
theorem d16_1 : DAt B16 1 (.ifCond .gt 5) 3 4 := ⟨by decide +kernel, rfl⟩
theorem d16_4 : DAt B16 4 (.iconst 0) 1 5 := ⟨by decide +kernel, rfl⟩
theorem d16_5 : DAt B16 5 (.ireturn) 1 6 := ⟨by decide +kernel, rfl⟩
theorem d16_6 : DAt B16 6 (.iconst 0) 1 7 := ⟨by decide +kernel, rfl⟩
theorem d16_7 : DAt B16 7 (.istore_n 2) 1 8 := ⟨by decide +kernel, rfl⟩
theorem d16_8 : DAt B16 8 (.iconst 0) 1 9 := ⟨by decide +kernel, rfl⟩
theorem d16_9 : DAt B16 9 (.istore_n 3) 1 10 := ⟨by decide +kernel, rfl⟩
theorem d16_10 : DAt B16 10 (.iload_n 3) 1 11 := ⟨by decide +kernel, rfl⟩
theorem d16_11 : DAt B16 11 (.sipush 129) 3 14 := ⟨by decide +kernel, rfl⟩
theorem d16_14 : DAt B16 14 (.if_icmp .ge 47) 3 17 := ⟨by decide +kernel, rfl⟩
theorem d16_17 : DAt B16 17 (.iload_n 2) 1 18 := ⟨by decide +kernel, rfl⟩
theorem d16_18 : DAt B16 18 (.iload_n 1) 1 19 := ⟨by decide +kernel, rfl⟩
theorem d16_19 : DAt B16 19 (.if_icmp .ge 42) 3 22 := ⟨by decide +kernel, rfl⟩
theorem d16_22 : DAt B16 22 (.aload_n 0) 1 23 := ⟨by decide +kernel, rfl⟩
theorem d16_23 : DAt B16 23 (.aload_n 0) 1 24 := ⟨by decide +kernel, rfl⟩
theorem d16_24 : DAt B16 24 (.getfield 82) 3 27 := ⟨by decide +kernel, rfl⟩
theorem d16_27 : DAt B16 27 (.invokevirtual 123) 3 30 := ⟨by decide +kernel, rfl⟩
theorem d16_30 : DAt B16 30 (.istore 4) 2 32 := ⟨by decide +kernel, rfl⟩
theorem d16_32 : DAt B16 32 (.iload 4) 2 34 := ⟨by decide +kernel, rfl⟩
theorem d16_34 : DAt B16 34 (.ifCond .ne 6) 3 37 := ⟨by decide +kernel, rfl⟩
theorem d16_37 : DAt B16 37 (.goto 24) 3 40 := ⟨by decide +kernel, rfl⟩
theorem d16_40 : DAt B16 40 (.aload_n 0) 1 41 := ⟨by decide +kernel, rfl⟩
theorem d16_41 : DAt B16 41 (.iload 4) 2 43 := ⟨by decide +kernel, rfl⟩
theorem d16_43 : DAt B16 43 (.invokevirtual 126) 3 46 := ⟨by decide +kernel, rfl⟩
theorem d16_46 : DAt B16 46 (.aload_n 0) 1 47 := ⟨by decide +kernel, rfl⟩
theorem d16_47 : DAt B16 47 (.iload 4) 2 49 := ⟨by decide +kernel, rfl⟩
theorem d16_49 : DAt B16 49 (.putfield 82) 3 52 := ⟨by decide +kernel, rfl⟩
theorem d16_52 : DAt B16 52 (.iinc 2 1) 3 55 := ⟨by decide +kernel, rfl⟩
theorem d16_55 : DAt B16 55 (.iinc 3 1) 3 58 := ⟨by decide +kernel, rfl⟩
theorem d16_58 : DAt B16 58 (.goto (-48)) 3 61 := ⟨by decide +kernel, rfl⟩
theorem d16_61 : DAt B16 61 (.iload_n 2) 1 62 := ⟨by decide +kernel, rfl⟩
theorem d16_62 : DAt B16 62 (.ireturn) 1 63 := ⟨by decide +kernel, rfl⟩
def B31 : Bdy := ((⟨"LogicalReplicator", "applyPending", "()V"⟩ : MethodName), prog_1_method_22_code, 2, none, ({ frames := 0, cells := 0, slots := 0, locals := 0 } : Room))
theorem d31_0 : DAt B31 0 (.iconst 0) 1 1 := ⟨by decide +kernel, rfl⟩
theorem d31_1 : DAt B31 1 (.istore_n 1) 1 2 := ⟨by decide +kernel, rfl⟩
theorem d31_2 : DAt B31 2 (.iload_n 1) 1 3 := ⟨by decide +kernel, rfl⟩
theorem d31_3 : DAt B31 3 (.aload_n 0) 1 4 := ⟨by decide +kernel, rfl⟩
theorem d31_4 : DAt B31 4 (.getfield 66) 3 7 := ⟨by decide +kernel, rfl⟩
theorem d31_7 : DAt B31 7 (.if_icmp .ge 78) 3 10 := ⟨by decide +kernel, rfl⟩
theorem d31_10 : DAt B31 10 (.iload_n 1) 1 11 := ⟨by decide +kernel, rfl⟩
theorem d31_11 : DAt B31 11 (.bipush 32) 2 13 := ⟨by decide +kernel, rfl⟩
theorem d31_13 : DAt B31 13 (.if_icmp .ge 72) 3 16 := ⟨by decide +kernel, rfl⟩
theorem d31_16 : DAt B31 16 (.aload_n 0) 1 17 := ⟨by decide +kernel, rfl⟩
theorem d31_17 : DAt B31 17 (.getfield 44) 3 20 := ⟨by decide +kernel, rfl⟩
theorem d31_20 : DAt B31 20 (.iload_n 1) 1 21 := ⟨by decide +kernel, rfl⟩
theorem d31_21 : DAt B31 21 (.iaload) 1 22 := ⟨by decide +kernel, rfl⟩
theorem d31_22 : DAt B31 22 (.iconst 1) 1 23 := ⟨by decide +kernel, rfl⟩
theorem d31_23 : DAt B31 23 (.if_icmp .ne 25) 3 26 := ⟨by decide +kernel, rfl⟩
theorem d31_26 : DAt B31 26 (.aload_n 0) 1 27 := ⟨by decide +kernel, rfl⟩
theorem d31_27 : DAt B31 27 (.getfield 38) 3 30 := ⟨by decide +kernel, rfl⟩
theorem d31_30 : DAt B31 30 (.iload_n 1) 1 31 := ⟨by decide +kernel, rfl⟩
theorem d31_31 : DAt B31 31 (.iconst 1) 1 32 := ⟨by decide +kernel, rfl⟩
theorem d31_32 : DAt B31 32 (.bastore) 1 33 := ⟨by decide +kernel, rfl⟩
theorem d31_33 : DAt B31 33 (.aload_n 0) 1 34 := ⟨by decide +kernel, rfl⟩
theorem d31_34 : DAt B31 34 (.getfield 41) 3 37 := ⟨by decide +kernel, rfl⟩
theorem d31_37 : DAt B31 37 (.iload_n 1) 1 38 := ⟨by decide +kernel, rfl⟩
theorem d31_38 : DAt B31 38 (.aload_n 0) 1 39 := ⟨by decide +kernel, rfl⟩
theorem d31_39 : DAt B31 39 (.getfield 47) 3 42 := ⟨by decide +kernel, rfl⟩
theorem d31_42 : DAt B31 42 (.iload_n 1) 1 43 := ⟨by decide +kernel, rfl⟩
theorem d31_43 : DAt B31 43 (.iaload) 1 44 := ⟨by decide +kernel, rfl⟩
theorem d31_44 : DAt B31 44 (.iastore) 1 45 := ⟨by decide +kernel, rfl⟩
theorem d31_45 : DAt B31 45 (.goto 20) 3 48 := ⟨by decide +kernel, rfl⟩
theorem d31_48 : DAt B31 48 (.aload_n 0) 1 49 := ⟨by decide +kernel, rfl⟩
theorem d31_49 : DAt B31 49 (.getfield 44) 3 52 := ⟨by decide +kernel, rfl⟩
theorem d31_52 : DAt B31 52 (.iload_n 1) 1 53 := ⟨by decide +kernel, rfl⟩
theorem d31_53 : DAt B31 53 (.iaload) 1 54 := ⟨by decide +kernel, rfl⟩
theorem d31_54 : DAt B31 54 (.iconst 2) 1 55 := ⟨by decide +kernel, rfl⟩
theorem d31_55 : DAt B31 55 (.if_icmp .ne 10) 3 58 := ⟨by decide +kernel, rfl⟩
theorem d31_58 : DAt B31 58 (.aload_n 0) 1 59 := ⟨by decide +kernel, rfl⟩
theorem d31_59 : DAt B31 59 (.getfield 38) 3 62 := ⟨by decide +kernel, rfl⟩
theorem d31_62 : DAt B31 62 (.iload_n 1) 1 63 := ⟨by decide +kernel, rfl⟩
theorem d31_63 : DAt B31 63 (.iconst 0) 1 64 := ⟨by decide +kernel, rfl⟩
theorem d31_64 : DAt B31 64 (.bastore) 1 65 := ⟨by decide +kernel, rfl⟩
theorem d31_65 : DAt B31 65 (.aload_n 0) 1 66 := ⟨by decide +kernel, rfl⟩
theorem d31_66 : DAt B31 66 (.getfield 44) 3 69 := ⟨by decide +kernel, rfl⟩
theorem d31_69 : DAt B31 69 (.iload_n 1) 1 70 := ⟨by decide +kernel, rfl⟩
theorem d31_70 : DAt B31 70 (.iconst 0) 1 71 := ⟨by decide +kernel, rfl⟩
theorem d31_71 : DAt B31 71 (.iastore) 1 72 := ⟨by decide +kernel, rfl⟩
theorem d31_72 : DAt B31 72 (.aload_n 0) 1 73 := ⟨by decide +kernel, rfl⟩
theorem d31_73 : DAt B31 73 (.getfield 47) 3 76 := ⟨by decide +kernel, rfl⟩
theorem d31_76 : DAt B31 76 (.iload_n 1) 1 77 := ⟨by decide +kernel, rfl⟩
theorem d31_77 : DAt B31 77 (.iconst 0) 1 78 := ⟨by decide +kernel, rfl⟩
theorem d31_78 : DAt B31 78 (.iastore) 1 79 := ⟨by decide +kernel, rfl⟩
theorem d31_79 : DAt B31 79 (.iinc 1 1) 3 82 := ⟨by decide +kernel, rfl⟩
theorem d31_82 : DAt B31 82 (.goto (-80)) 3 85 := ⟨by decide +kernel, rfl⟩
theorem d31_85 : DAt B31 85 (.return_) 1 86 := ⟨by decide +kernel, rfl⟩
def B30 : Bdy := ((⟨"LogicalReplicator", "handleHead", "()V"⟩ : MethodName), prog_1_method_21_code, 6, none, ({ frames := 1, cells := 0, slots := 0, locals := 13 } : Room))
theorem d30_0 : DAt B30 0 (.aload_n 0) 1 1 := ⟨by decide +kernel, rfl⟩
theorem d30_1 : DAt B30 1 (.getfield 91) 3 4 := ⟨by decide +kernel, rfl⟩
theorem d30_4 : DAt B30 4 (.istore_n 1) 1 5 := ⟨by decide +kernel, rfl⟩
theorem d30_5 : DAt B30 5 (.iload_n 1) 1 6 := ⟨by decide +kernel, rfl⟩
theorem d30_6 : DAt B30 6 (.ifCond .lt 10) 3 9 := ⟨by decide +kernel, rfl⟩
theorem d30_9 : DAt B30 9 (.iload_n 1) 1 10 := ⟨by decide +kernel, rfl⟩
theorem d30_10 : DAt B30 10 (.sipush 128) 3 13 := ⟨by decide +kernel, rfl⟩
theorem d30_13 : DAt B30 13 (.if_icmp .lt 5) 3 16 := ⟨by decide +kernel, rfl⟩
theorem d30_16 : DAt B30 16 (.iconst 0) 1 17 := ⟨by decide +kernel, rfl⟩
theorem d30_17 : DAt B30 17 (.istore_n 1) 1 18 := ⟨by decide +kernel, rfl⟩
theorem d30_18 : DAt B30 18 (.aload_n 0) 1 19 := ⟨by decide +kernel, rfl⟩
theorem d30_19 : DAt B30 19 (.getfield 50) 3 22 := ⟨by decide +kernel, rfl⟩
theorem d30_22 : DAt B30 22 (.iload_n 1) 1 23 := ⟨by decide +kernel, rfl⟩
theorem d30_23 : DAt B30 23 (.iaload) 1 24 := ⟨by decide +kernel, rfl⟩
theorem d30_24 : DAt B30 24 (.istore_n 2) 1 25 := ⟨by decide +kernel, rfl⟩
theorem d30_25 : DAt B30 25 (.aload_n 0) 1 26 := ⟨by decide +kernel, rfl⟩
theorem d30_26 : DAt B30 26 (.getfield 53) 3 29 := ⟨by decide +kernel, rfl⟩
theorem d30_29 : DAt B30 29 (.iload_n 1) 1 30 := ⟨by decide +kernel, rfl⟩
theorem d30_30 : DAt B30 30 (.iaload) 1 31 := ⟨by decide +kernel, rfl⟩
theorem d30_31 : DAt B30 31 (.istore_n 3) 1 32 := ⟨by decide +kernel, rfl⟩
theorem d30_32 : DAt B30 32 (.aload_n 0) 1 33 := ⟨by decide +kernel, rfl⟩
theorem d30_33 : DAt B30 33 (.getfield 56) 3 36 := ⟨by decide +kernel, rfl⟩
theorem d30_36 : DAt B30 36 (.iload_n 1) 1 37 := ⟨by decide +kernel, rfl⟩
theorem d30_37 : DAt B30 37 (.iaload) 1 38 := ⟨by decide +kernel, rfl⟩
theorem d30_38 : DAt B30 38 (.istore 4) 2 40 := ⟨by decide +kernel, rfl⟩
theorem d30_40 : DAt B30 40 (.aload_n 0) 1 41 := ⟨by decide +kernel, rfl⟩
theorem d30_41 : DAt B30 41 (.getfield 59) 3 44 := ⟨by decide +kernel, rfl⟩
theorem d30_44 : DAt B30 44 (.iload_n 1) 1 45 := ⟨by decide +kernel, rfl⟩
theorem d30_45 : DAt B30 45 (.iaload) 1 46 := ⟨by decide +kernel, rfl⟩
theorem d30_46 : DAt B30 46 (.istore 5) 2 48 := ⟨by decide +kernel, rfl⟩
theorem d30_48 : DAt B30 48 (.aload_n 0) 1 49 := ⟨by decide +kernel, rfl⟩
theorem d30_49 : DAt B30 49 (.iload_n 1) 1 50 := ⟨by decide +kernel, rfl⟩
theorem d30_50 : DAt B30 50 (.iconst 1) 1 51 := ⟨by decide +kernel, rfl⟩
theorem d30_51 : DAt B30 51 (.iadd) 1 52 := ⟨by decide +kernel, rfl⟩
theorem d30_52 : DAt B30 52 (.sipush 128) 3 55 := ⟨by decide +kernel, rfl⟩
theorem d30_55 : DAt B30 55 (.irem) 1 56 := ⟨by decide +kernel, rfl⟩
theorem d30_56 : DAt B30 56 (.putfield 91) 3 59 := ⟨by decide +kernel, rfl⟩
theorem d30_59 : DAt B30 59 (.aload_n 0) 1 60 := ⟨by decide +kernel, rfl⟩
theorem d30_60 : DAt B30 60 (.dup) 1 61 := ⟨by decide +kernel, rfl⟩
theorem d30_61 : DAt B30 61 (.getfield 94) 3 64 := ⟨by decide +kernel, rfl⟩
theorem d30_64 : DAt B30 64 (.iconst 1) 1 65 := ⟨by decide +kernel, rfl⟩
theorem d30_65 : DAt B30 65 (.isub) 1 66 := ⟨by decide +kernel, rfl⟩
theorem d30_66 : DAt B30 66 (.putfield 94) 3 69 := ⟨by decide +kernel, rfl⟩
theorem d30_69 : DAt B30 69 (.iload 5) 2 71 := ⟨by decide +kernel, rfl⟩
theorem d30_71 : DAt B30 71 (.aload_n 0) 1 72 := ⟨by decide +kernel, rfl⟩
theorem d30_72 : DAt B30 72 (.getfield 85) 3 75 := ⟨by decide +kernel, rfl⟩
theorem d30_75 : DAt B30 75 (.if_icmp .gt 4) 3 78 := ⟨by decide +kernel, rfl⟩
theorem d30_78 : DAt B30 78 (.return_) 1 79 := ⟨by decide +kernel, rfl⟩
theorem d30_79 : DAt B30 79 (.iload_n 2) 1 80 := ⟨by decide +kernel, rfl⟩
theorem d30_80 : DAt B30 80 (.iconst 4) 1 81 := ⟨by decide +kernel, rfl⟩
theorem d30_81 : DAt B30 81 (.if_icmp .ne 14) 3 84 := ⟨by decide +kernel, rfl⟩
theorem d30_84 : DAt B30 84 (.aload_n 0) 1 85 := ⟨by decide +kernel, rfl⟩
theorem d30_85 : DAt B30 85 (.invokevirtual 137) 3 88 := ⟨by decide +kernel, rfl⟩
theorem d30_88 : DAt B30 88 (.aload_n 0) 1 89 := ⟨by decide +kernel, rfl⟩
theorem d30_89 : DAt B30 89 (.iload 5) 2 91 := ⟨by decide +kernel, rfl⟩
theorem d30_91 : DAt B30 91 (.putfield 85) 3 94 := ⟨by decide +kernel, rfl⟩
theorem d30_94 : DAt B30 94 (.return_) 1 95 := ⟨by decide +kernel, rfl⟩
theorem d30_95 : DAt B30 95 (.iload_n 3) 1 96 := ⟨by decide +kernel, rfl⟩
theorem d30_96 : DAt B30 96 (.ifCond .lt 9) 3 99 := ⟨by decide +kernel, rfl⟩
theorem d30_99 : DAt B30 99 (.iload_n 3) 1 100 := ⟨by decide +kernel, rfl⟩
theorem d30_100 : DAt B30 100 (.bipush 32) 2 102 := ⟨by decide +kernel, rfl⟩
theorem d30_102 : DAt B30 102 (.if_icmp .lt 4) 3 105 := ⟨by decide +kernel, rfl⟩
theorem d30_105 : DAt B30 105 (.return_) 1 106 := ⟨by decide +kernel, rfl⟩
theorem d30_106 : DAt B30 106 (.iload_n 2) 1 107 := ⟨by decide +kernel, rfl⟩
theorem d30_107 : DAt B30 107 (.iconst 2) 1 108 := ⟨by decide +kernel, rfl⟩
theorem d30_108 : DAt B30 108 (.if_icmp .ne 21) 3 111 := ⟨by decide +kernel, rfl⟩
theorem d30_111 : DAt B30 111 (.aload_n 0) 1 112 := ⟨by decide +kernel, rfl⟩
theorem d30_112 : DAt B30 112 (.getfield 44) 3 115 := ⟨by decide +kernel, rfl⟩
theorem d30_115 : DAt B30 115 (.iload_n 3) 1 116 := ⟨by decide +kernel, rfl⟩
theorem d30_116 : DAt B30 116 (.iconst 1) 1 117 := ⟨by decide +kernel, rfl⟩
theorem d30_117 : DAt B30 117 (.iastore) 1 118 := ⟨by decide +kernel, rfl⟩
theorem d30_118 : DAt B30 118 (.aload_n 0) 1 119 := ⟨by decide +kernel, rfl⟩
theorem d30_119 : DAt B30 119 (.getfield 47) 3 122 := ⟨by decide +kernel, rfl⟩
theorem d30_122 : DAt B30 122 (.iload_n 3) 1 123 := ⟨by decide +kernel, rfl⟩
theorem d30_123 : DAt B30 123 (.iload 4) 2 125 := ⟨by decide +kernel, rfl⟩
theorem d30_125 : DAt B30 125 (.iastore) 1 126 := ⟨by decide +kernel, rfl⟩
theorem d30_126 : DAt B30 126 (.goto 22) 3 129 := ⟨by decide +kernel, rfl⟩
theorem d30_129 : DAt B30 129 (.iload_n 2) 1 130 := ⟨by decide +kernel, rfl⟩
theorem d30_130 : DAt B30 130 (.iconst 3) 1 131 := ⟨by decide +kernel, rfl⟩
theorem d30_131 : DAt B30 131 (.if_icmp .ne 17) 3 134 := ⟨by decide +kernel, rfl⟩
theorem d30_134 : DAt B30 134 (.aload_n 0) 1 135 := ⟨by decide +kernel, rfl⟩
theorem d30_135 : DAt B30 135 (.getfield 44) 3 138 := ⟨by decide +kernel, rfl⟩
theorem d30_138 : DAt B30 138 (.iload_n 3) 1 139 := ⟨by decide +kernel, rfl⟩
theorem d30_139 : DAt B30 139 (.iconst 2) 1 140 := ⟨by decide +kernel, rfl⟩
theorem d30_140 : DAt B30 140 (.iastore) 1 141 := ⟨by decide +kernel, rfl⟩
theorem d30_141 : DAt B30 141 (.aload_n 0) 1 142 := ⟨by decide +kernel, rfl⟩
theorem d30_142 : DAt B30 142 (.getfield 47) 3 145 := ⟨by decide +kernel, rfl⟩
theorem d30_145 : DAt B30 145 (.iload_n 3) 1 146 := ⟨by decide +kernel, rfl⟩
theorem d30_146 : DAt B30 146 (.iconst 0) 1 147 := ⟨by decide +kernel, rfl⟩
theorem d30_147 : DAt B30 147 (.iastore) 1 148 := ⟨by decide +kernel, rfl⟩
theorem d30_148 : DAt B30 148 (.return_) 1 149 := ⟨by decide +kernel, rfl⟩
def B24 : Bdy := ((⟨"LogicalReplicator", "apply", "(I)I"⟩ : MethodName), prog_1_method_20_code, 4, (some .int), ({ frames := 2, cells := 0, slots := 0, locals := 30 } : Room))
theorem d24_0 : DAt B24 0 (.iload_n 1) 1 1 := ⟨by decide +kernel, rfl⟩
theorem d24_1 : DAt B24 1 (.ifCond .gt 5) 3 4 := ⟨by decide +kernel, rfl⟩
theorem d24_4 : DAt B24 4 (.iconst 0) 1 5 := ⟨by decide +kernel, rfl⟩
theorem d24_5 : DAt B24 5 (.ireturn) 1 6 := ⟨by decide +kernel, rfl⟩
theorem d24_6 : DAt B24 6 (.iconst 0) 1 7 := ⟨by decide +kernel, rfl⟩
theorem d24_7 : DAt B24 7 (.istore_n 2) 1 8 := ⟨by decide +kernel, rfl⟩
theorem d24_8 : DAt B24 8 (.iconst 0) 1 9 := ⟨by decide +kernel, rfl⟩
theorem d24_9 : DAt B24 9 (.istore_n 3) 1 10 := ⟨by decide +kernel, rfl⟩
theorem d24_10 : DAt B24 10 (.iload_n 3) 1 11 := ⟨by decide +kernel, rfl⟩
theorem d24_11 : DAt B24 11 (.sipush 128) 3 14 := ⟨by decide +kernel, rfl⟩
theorem d24_14 : DAt B24 14 (.if_icmp .gt 28) 3 17 := ⟨by decide +kernel, rfl⟩
theorem d24_17 : DAt B24 17 (.iload_n 2) 1 18 := ⟨by decide +kernel, rfl⟩
theorem d24_18 : DAt B24 18 (.iload_n 1) 1 19 := ⟨by decide +kernel, rfl⟩
theorem d24_19 : DAt B24 19 (.if_icmp .ge 23) 3 22 := ⟨by decide +kernel, rfl⟩
theorem d24_22 : DAt B24 22 (.aload_n 0) 1 23 := ⟨by decide +kernel, rfl⟩
theorem d24_23 : DAt B24 23 (.getfield 94) 3 26 := ⟨by decide +kernel, rfl⟩
theorem d24_26 : DAt B24 26 (.ifCond .le 16) 3 29 := ⟨by decide +kernel, rfl⟩
theorem d24_29 : DAt B24 29 (.aload_n 0) 1 30 := ⟨by decide +kernel, rfl⟩
theorem d24_30 : DAt B24 30 (.invokevirtual 134) 3 33 := ⟨by decide +kernel, rfl⟩
theorem d24_33 : DAt B24 33 (.iinc 2 1) 3 36 := ⟨by decide +kernel, rfl⟩
theorem d24_36 : DAt B24 36 (.iinc 3 1) 3 39 := ⟨by decide +kernel, rfl⟩
theorem d24_39 : DAt B24 39 (.goto (-29)) 3 42 := ⟨by decide +kernel, rfl⟩
theorem d24_42 : DAt B24 42 (.iload_n 2) 1 43 := ⟨by decide +kernel, rfl⟩
theorem d24_43 : DAt B24 43 (.ireturn) 1 44 := ⟨by decide +kernel, rfl⟩
def B26 : Bdy := ((⟨"LogicalReplicator", "feedback", "()I"⟩ : MethodName), prog_1_method_24_code, 1, (some .int), ({ frames := 0, cells := 0, slots := 0, locals := 0 } : Room))
theorem d26_0 : DAt B26 0 (.aload_n 0) 1 1 := ⟨by decide +kernel, rfl⟩
theorem d26_1 : DAt B26 1 (.aload_n 0) 1 2 := ⟨by decide +kernel, rfl⟩
theorem d26_2 : DAt B26 2 (.getfield 85) 3 5 := ⟨by decide +kernel, rfl⟩
theorem d26_5 : DAt B26 5 (.putfield 88) 3 8 := ⟨by decide +kernel, rfl⟩
theorem d26_8 : DAt B26 8 (.aload_n 0) 1 9 := ⟨by decide +kernel, rfl⟩
theorem d26_9 : DAt B26 9 (.getfield 88) 3 12 := ⟨by decide +kernel, rfl⟩
theorem d26_12 : DAt B26 12 (.ireturn) 1 13 := ⟨by decide +kernel, rfl⟩
def B19 : Bdy := ((⟨"LogicalReplicator", "clearQueue", "()V"⟩ : MethodName), prog_1_method_19_code, 1, none, ({ frames := 0, cells := 0, slots := 0, locals := 0 } : Room))
theorem d19_0 : DAt B19 0 (.aload_n 0) 1 1 := ⟨by decide +kernel, rfl⟩
theorem d19_1 : DAt B19 1 (.iconst 0) 1 2 := ⟨by decide +kernel, rfl⟩
theorem d19_2 : DAt B19 2 (.putfield 91) 3 5 := ⟨by decide +kernel, rfl⟩
theorem d19_5 : DAt B19 5 (.aload_n 0) 1 6 := ⟨by decide +kernel, rfl⟩
theorem d19_6 : DAt B19 6 (.iconst 0) 1 7 := ⟨by decide +kernel, rfl⟩
theorem d19_7 : DAt B19 7 (.putfield 94) 3 10 := ⟨by decide +kernel, rfl⟩
theorem d19_10 : DAt B19 10 (.return_) 1 11 := ⟨by decide +kernel, rfl⟩
def B20 : Bdy := ((⟨"LogicalReplicator", "clearPending", "()V"⟩ : MethodName), prog_1_method_23_code, 2, none, ({ frames := 0, cells := 0, slots := 0, locals := 0 } : Room))
theorem d20_0 : DAt B20 0 (.iconst 0) 1 1 := ⟨by decide +kernel, rfl⟩
theorem d20_1 : DAt B20 1 (.istore_n 1) 1 2 := ⟨by decide +kernel, rfl⟩
theorem d20_2 : DAt B20 2 (.iload_n 1) 1 3 := ⟨by decide +kernel, rfl⟩
theorem d20_3 : DAt B20 3 (.bipush 32) 2 5 := ⟨by decide +kernel, rfl⟩
theorem d20_5 : DAt B20 5 (.if_icmp .ge 23) 3 8 := ⟨by decide +kernel, rfl⟩
theorem d20_8 : DAt B20 8 (.aload_n 0) 1 9 := ⟨by decide +kernel, rfl⟩
theorem d20_9 : DAt B20 9 (.getfield 44) 3 12 := ⟨by decide +kernel, rfl⟩
theorem d20_12 : DAt B20 12 (.iload_n 1) 1 13 := ⟨by decide +kernel, rfl⟩
theorem d20_13 : DAt B20 13 (.iconst 0) 1 14 := ⟨by decide +kernel, rfl⟩
theorem d20_14 : DAt B20 14 (.iastore) 1 15 := ⟨by decide +kernel, rfl⟩
theorem d20_15 : DAt B20 15 (.aload_n 0) 1 16 := ⟨by decide +kernel, rfl⟩
theorem d20_16 : DAt B20 16 (.getfield 47) 3 19 := ⟨by decide +kernel, rfl⟩
theorem d20_19 : DAt B20 19 (.iload_n 1) 1 20 := ⟨by decide +kernel, rfl⟩
theorem d20_20 : DAt B20 20 (.iconst 0) 1 21 := ⟨by decide +kernel, rfl⟩
theorem d20_21 : DAt B20 21 (.iastore) 1 22 := ⟨by decide +kernel, rfl⟩
theorem d20_22 : DAt B20 22 (.iinc 1 1) 3 25 := ⟨by decide +kernel, rfl⟩
theorem d20_25 : DAt B20 25 (.goto (-23)) 3 28 := ⟨by decide +kernel, rfl⟩
theorem d20_28 : DAt B20 28 (.return_) 1 29 := ⟨by decide +kernel, rfl⟩
def B22 : Bdy := ((⟨"LogicalReplicator", "crashPublisher", "()V"⟩ : MethodName), prog_1_method_25_code, 2, none, ({ frames := 1, cells := 0, slots := 0, locals := 13 } : Room))
theorem d22_0 : DAt B22 0 (.iconst 0) 1 1 := ⟨by decide +kernel, rfl⟩
theorem d22_1 : DAt B22 1 (.istore_n 1) 1 2 := ⟨by decide +kernel, rfl⟩
theorem d22_2 : DAt B22 2 (.iload_n 1) 1 3 := ⟨by decide +kernel, rfl⟩
theorem d22_3 : DAt B22 3 (.bipush 8) 2 5 := ⟨by decide +kernel, rfl⟩
theorem d22_5 : DAt B22 5 (.if_icmp .ge 16) 3 8 := ⟨by decide +kernel, rfl⟩
theorem d22_8 : DAt B22 8 (.aload_n 0) 1 9 := ⟨by decide +kernel, rfl⟩
theorem d22_9 : DAt B22 9 (.getfield 25) 3 12 := ⟨by decide +kernel, rfl⟩
theorem d22_12 : DAt B22 12 (.iload_n 1) 1 13 := ⟨by decide +kernel, rfl⟩
theorem d22_13 : DAt B22 13 (.iconst 0) 1 14 := ⟨by decide +kernel, rfl⟩
theorem d22_14 : DAt B22 14 (.bastore) 1 15 := ⟨by decide +kernel, rfl⟩
theorem d22_15 : DAt B22 15 (.iinc 1 1) 3 18 := ⟨by decide +kernel, rfl⟩
theorem d22_18 : DAt B22 18 (.goto (-16)) 3 21 := ⟨by decide +kernel, rfl⟩
theorem d22_21 : DAt B22 21 (.aload_n 0) 1 22 := ⟨by decide +kernel, rfl⟩
theorem d22_22 : DAt B22 22 (.invokevirtual 140) 3 25 := ⟨by decide +kernel, rfl⟩
theorem d22_25 : DAt B22 25 (.aload_n 0) 1 26 := ⟨by decide +kernel, rfl⟩
theorem d22_26 : DAt B22 26 (.invokevirtual 143) 3 29 := ⟨by decide +kernel, rfl⟩
theorem d22_29 : DAt B22 29 (.aload_n 0) 1 30 := ⟨by decide +kernel, rfl⟩
theorem d22_30 : DAt B22 30 (.aload_n 0) 1 31 := ⟨by decide +kernel, rfl⟩
theorem d22_31 : DAt B22 31 (.getfield 88) 3 34 := ⟨by decide +kernel, rfl⟩
theorem d22_34 : DAt B22 34 (.putfield 82) 3 37 := ⟨by decide +kernel, rfl⟩
theorem d22_37 : DAt B22 37 (.return_) 1 38 := ⟨by decide +kernel, rfl⟩
def B18 : Bdy := ((⟨"LogicalReplicator", "crashSubscriber", "()V"⟩ : MethodName), prog_1_method_26_code, 1, none, ({ frames := 1, cells := 0, slots := 0, locals := 13 } : Room))
theorem d18_0 : DAt B18 0 (.aload_n 0) 1 1 := ⟨by decide +kernel, rfl⟩
theorem d18_1 : DAt B18 1 (.invokevirtual 140) 3 4 := ⟨by decide +kernel, rfl⟩
theorem d18_4 : DAt B18 4 (.aload_n 0) 1 5 := ⟨by decide +kernel, rfl⟩
theorem d18_5 : DAt B18 5 (.invokevirtual 143) 3 8 := ⟨by decide +kernel, rfl⟩
theorem d18_8 : DAt B18 8 (.aload_n 0) 1 9 := ⟨by decide +kernel, rfl⟩
theorem d18_9 : DAt B18 9 (.aload_n 0) 1 10 := ⟨by decide +kernel, rfl⟩
theorem d18_10 : DAt B18 10 (.getfield 88) 3 13 := ⟨by decide +kernel, rfl⟩
theorem d18_13 : DAt B18 13 (.putfield 82) 3 16 := ⟨by decide +kernel, rfl⟩
theorem d18_16 : DAt B18 16 (.return_) 1 17 := ⟨by decide +kernel, rfl⟩
def B0 : Bdy := (x, code, maxLocals, ret, room_1)
theorem d0_0 : DAt B0 0 (.new 8) 3 3 := ⟨at_0, rfl⟩
theorem d0_3 : DAt B0 3 (.dup) 1 4 := ⟨at_3, rfl⟩
theorem d0_4 : DAt B0 4 (.bipush 8) 2 6 := ⟨at_4, rfl⟩
theorem d0_6 : DAt B0 6 (.iconst 4) 1 7 := ⟨at_6, rfl⟩
theorem d0_7 : DAt B0 7 (.bipush 64) 2 9 := ⟨at_7, rfl⟩
theorem d0_9 : DAt B0 9 (.iconst 2) 1 10 := ⟨at_9, rfl⟩
theorem d0_10 : DAt B0 10 (.invokespecial 10) 3 13 := ⟨at_10, rfl⟩
theorem d0_13 : DAt B0 13 (.astore_n 1) 1 14 := ⟨at_13, rfl⟩
theorem d0_14 : DAt B0 14 (.iconst 0) 1 15 := ⟨at_14, rfl⟩
theorem d0_15 : DAt B0 15 (.istore_n 2) 1 16 := ⟨at_15, rfl⟩
theorem d0_16 : DAt B0 16 (.iconst 0) 1 17 := ⟨at_16, rfl⟩
theorem d0_17 : DAt B0 17 (.istore_n 3) 1 18 := ⟨at_17, rfl⟩
theorem d0_18 : DAt B0 18 (.iconst 0) 1 19 := ⟨at_18, rfl⟩
theorem d0_19 : DAt B0 19 (.istore 4) 2 21 := ⟨at_19, rfl⟩
theorem d0_21 : DAt B0 21 (.iconst 0) 1 22 := ⟨at_21, rfl⟩
theorem d0_22 : DAt B0 22 (.istore 5) 2 24 := ⟨at_22, rfl⟩
theorem d0_24 : DAt B0 24 (.iconst 0) 1 25 := ⟨at_24, rfl⟩
theorem d0_25 : DAt B0 25 (.istore 6) 2 27 := ⟨at_25, rfl⟩
theorem d0_27 : DAt B0 27 (.iconst 0) 1 28 := ⟨at_27, rfl⟩
theorem d0_28 : DAt B0 28 (.istore 7) 2 30 := ⟨at_28, rfl⟩
theorem d0_30 : DAt B0 30 (.lconst 0) 1 31 := ⟨at_30, rfl⟩
theorem d0_31 : DAt B0 31 (.lstore 8) 2 33 := ⟨at_31, rfl⟩
theorem d0_33 : DAt B0 33 (.iconst 0) 1 34 := ⟨at_33, rfl⟩
theorem d0_34 : DAt B0 34 (.istore 10) 2 36 := ⟨at_34, rfl⟩
theorem d0_36 : DAt B0 36 (.iload 10) 2 38 := ⟨at_36, rfl⟩
theorem d0_38 : DAt B0 38 (.iconst 3) 1 39 := ⟨at_38, rfl⟩
theorem d0_39 : DAt B0 39 (.iadd) 1 40 := ⟨at_39, rfl⟩
theorem d0_40 : DAt B0 40 (.aload_n 0) 1 41 := ⟨at_40, rfl⟩
theorem d0_41 : DAt B0 41 (.arraylength) 1 42 := ⟨at_41, rfl⟩
theorem d0_42 : DAt B0 42 (.if_icmp .ge 806) 3 45 := ⟨at_42, rfl⟩
theorem d0_45 : DAt B0 45 (.aload_n 0) 1 46 := ⟨at_45, rfl⟩
theorem d0_46 : DAt B0 46 (.iload 10) 2 48 := ⟨at_46, rfl⟩
theorem d0_48 : DAt B0 48 (.iaload) 1 49 := ⟨at_48, rfl⟩
theorem d0_49 : DAt B0 49 (.bipush 15) 2 51 := ⟨at_49, rfl⟩
theorem d0_51 : DAt B0 51 (.iand) 1 52 := ⟨at_51, rfl⟩
theorem d0_52 : DAt B0 52 (.istore 11) 2 54 := ⟨at_52, rfl⟩
theorem d0_54 : DAt B0 54 (.aload_n 0) 1 55 := ⟨at_54, rfl⟩
theorem d0_55 : DAt B0 55 (.iload 10) 2 57 := ⟨at_55, rfl⟩
theorem d0_57 : DAt B0 57 (.iconst 1) 1 58 := ⟨at_57, rfl⟩
theorem d0_58 : DAt B0 58 (.iadd) 1 59 := ⟨at_58, rfl⟩
theorem d0_59 : DAt B0 59 (.iaload) 1 60 := ⟨at_59, rfl⟩
theorem d0_60 : DAt B0 60 (.bipush 7) 2 62 := ⟨at_60, rfl⟩
theorem d0_62 : DAt B0 62 (.iand) 1 63 := ⟨at_62, rfl⟩
theorem d0_63 : DAt B0 63 (.iconst 5) 1 64 := ⟨at_63, rfl⟩
theorem d0_64 : DAt B0 64 (.irem) 1 65 := ⟨at_64, rfl⟩
theorem d0_65 : DAt B0 65 (.istore 12) 2 67 := ⟨at_65, rfl⟩
theorem d0_67 : DAt B0 67 (.aload_n 0) 1 68 := ⟨at_67, rfl⟩
theorem d0_68 : DAt B0 68 (.iload 10) 2 70 := ⟨at_68, rfl⟩
theorem d0_70 : DAt B0 70 (.iconst 2) 1 71 := ⟨at_70, rfl⟩
theorem d0_71 : DAt B0 71 (.iadd) 1 72 := ⟨at_71, rfl⟩
theorem d0_72 : DAt B0 72 (.iaload) 1 73 := ⟨at_72, rfl⟩
theorem d0_73 : DAt B0 73 (.bipush 15) 2 75 := ⟨at_73, rfl⟩
theorem d0_75 : DAt B0 75 (.iand) 1 76 := ⟨at_75, rfl⟩
theorem d0_76 : DAt B0 76 (.bipush 9) 2 78 := ⟨at_76, rfl⟩
theorem d0_78 : DAt B0 78 (.irem) 1 79 := ⟨at_78, rfl⟩
theorem d0_79 : DAt B0 79 (.istore 13) 2 81 := ⟨at_79, rfl⟩
theorem d0_81 : DAt B0 81 (.aload_n 0) 1 82 := ⟨at_81, rfl⟩
theorem d0_82 : DAt B0 82 (.iload 10) 2 84 := ⟨at_82, rfl⟩
theorem d0_84 : DAt B0 84 (.iconst 2) 1 85 := ⟨at_84, rfl⟩
theorem d0_85 : DAt B0 85 (.iadd) 1 86 := ⟨at_85, rfl⟩
theorem d0_86 : DAt B0 86 (.iaload) 1 87 := ⟨at_86, rfl⟩
theorem d0_87 : DAt B0 87 (.iconst 3) 1 88 := ⟨at_87, rfl⟩
theorem d0_88 : DAt B0 88 (.iand) 1 89 := ⟨at_88, rfl⟩
theorem d0_89 : DAt B0 89 (.istore 14) 2 91 := ⟨at_89, rfl⟩
theorem d0_91 : DAt B0 91 (.aload_n 0) 1 92 := ⟨at_91, rfl⟩
theorem d0_92 : DAt B0 92 (.iload 10) 2 94 := ⟨at_92, rfl⟩
theorem d0_94 : DAt B0 94 (.iconst 3) 1 95 := ⟨at_94, rfl⟩
theorem d0_95 : DAt B0 95 (.iadd) 1 96 := ⟨at_95, rfl⟩
theorem d0_96 : DAt B0 96 (.iaload) 1 97 := ⟨at_96, rfl⟩
theorem d0_97 : DAt B0 97 (.istore 15) 2 99 := ⟨at_97, rfl⟩
theorem d0_99 : DAt B0 99 (.iload 12) 2 101 := ⟨at_99, rfl⟩
theorem d0_101 : DAt B0 101 (.iconst 4) 1 102 := ⟨at_101, rfl⟩
theorem d0_102 : DAt B0 102 (.if_icmp .ge 7) 3 105 := ⟨at_102, rfl⟩
theorem d0_105 : DAt B0 105 (.iconst 1) 1 106 := ⟨at_105, rfl⟩
theorem d0_106 : DAt B0 106 (.goto 4) 3 109 := ⟨at_106, rfl⟩
theorem d0_109 : DAt B0 109 (.iconst 0) 1 110 := ⟨at_109, rfl⟩
theorem d0_110 : DAt B0 110 (.istore 16) 2 112 := ⟨at_110, rfl⟩
theorem d0_112 : DAt B0 112 (.iload 16) 2 114 := ⟨at_112, rfl⟩
theorem d0_114 : DAt B0 114 (.ifCond .eq 17) 3 117 := ⟨at_114, rfl⟩
theorem d0_117 : DAt B0 117 (.iload_n 3) 1 118 := ⟨at_117, rfl⟩
theorem d0_118 : DAt B0 118 (.iload 12) 2 120 := ⟨at_118, rfl⟩
theorem d0_120 : DAt B0 120 (.ishr) 1 121 := ⟨at_120, rfl⟩
theorem d0_121 : DAt B0 121 (.iconst 1) 1 122 := ⟨at_121, rfl⟩
theorem d0_122 : DAt B0 122 (.iand) 1 123 := ⟨at_122, rfl⟩
theorem d0_123 : DAt B0 123 (.iconst 1) 1 124 := ⟨at_123, rfl⟩
theorem d0_124 : DAt B0 124 (.if_icmp .ne 7) 3 127 := ⟨at_124, rfl⟩
theorem d0_127 : DAt B0 127 (.iconst 1) 1 128 := ⟨at_127, rfl⟩
theorem d0_128 : DAt B0 128 (.goto 4) 3 131 := ⟨at_128, rfl⟩
theorem d0_131 : DAt B0 131 (.iconst 0) 1 132 := ⟨at_131, rfl⟩
theorem d0_132 : DAt B0 132 (.istore 17) 2 134 := ⟨at_132, rfl⟩
theorem d0_134 : DAt B0 134 (.iload 11) 2 136 := ⟨at_134, rfl⟩
theorem d0_136 : DAt B0 136 (.iconst 1) 1 137 := ⟨at_136, rfl⟩
theorem d0_137 : DAt B0 137 (.if_icmp .gt 67) 3 140 := ⟨at_137, rfl⟩
theorem d0_140 : DAt B0 140 (.iload_n 2) 1 141 := ⟨at_140, rfl⟩
theorem d0_141 : DAt B0 141 (.iload 16) 2 143 := ⟨at_141, rfl⟩
theorem d0_143 : DAt B0 143 (.iload 17) 2 145 := ⟨at_143, rfl⟩
theorem d0_145 : DAt B0 145 (.iconst 0) 1 146 := ⟨at_145, rfl⟩
theorem d0_146 : DAt B0 146 (.invokestatic 13) 3 149 := ⟨at_146, rfl⟩
theorem d0_149 : DAt B0 149 (.istore 18) 2 151 := ⟨at_149, rfl⟩
theorem d0_151 : DAt B0 151 (.aload_n 1) 1 152 := ⟨at_151, rfl⟩
theorem d0_152 : DAt B0 152 (.iload 12) 2 154 := ⟨at_152, rfl⟩
theorem d0_154 : DAt B0 154 (.invokevirtual 19) 3 157 := ⟨at_154, rfl⟩
theorem d0_157 : DAt B0 157 (.iload 18) 2 159 := ⟨at_157, rfl⟩
theorem d0_159 : DAt B0 159 (.if_icmp .eq 5) 3 162 := ⟨at_159, rfl⟩
theorem d0_162 : DAt B0 162 (.iconst 0) 1 163 := ⟨at_162, rfl⟩
theorem d0_163 : DAt B0 163 (.ireturn) 1 164 := ⟨at_163, rfl⟩
theorem d0_164 : DAt B0 164 (.iload 18) 2 166 := ⟨at_164, rfl⟩
theorem d0_166 : DAt B0 166 (.ifCond .le 35) 3 169 := ⟨at_166, rfl⟩
theorem d0_169 : DAt B0 169 (.iload 18) 2 171 := ⟨at_169, rfl⟩
theorem d0_171 : DAt B0 171 (.istore_n 2) 1 172 := ⟨at_171, rfl⟩
theorem d0_172 : DAt B0 172 (.iload_n 3) 1 173 := ⟨at_172, rfl⟩
theorem d0_173 : DAt B0 173 (.iconst 1) 1 174 := ⟨at_173, rfl⟩
theorem d0_174 : DAt B0 174 (.iload 12) 2 176 := ⟨at_174, rfl⟩
theorem d0_176 : DAt B0 176 (.ishl) 1 177 := ⟨at_176, rfl⟩
theorem d0_177 : DAt B0 177 (.ior) 1 178 := ⟨at_177, rfl⟩
theorem d0_178 : DAt B0 178 (.istore_n 3) 1 179 := ⟨at_178, rfl⟩
theorem d0_179 : DAt B0 179 (.iinc 4 1) 3 182 := ⟨at_179, rfl⟩
theorem d0_182 : DAt B0 182 (.aload_n 1) 1 183 := ⟨at_182, rfl⟩
theorem d0_183 : DAt B0 183 (.iload_n 2) 1 184 := ⟨at_183, rfl⟩
theorem d0_184 : DAt B0 184 (.invokevirtual 23) 3 187 := ⟨at_184, rfl⟩
theorem d0_187 : DAt B0 187 (.iconst 1) 1 188 := ⟨at_187, rfl⟩
theorem d0_188 : DAt B0 188 (.iload 12) 2 190 := ⟨at_188, rfl⟩
theorem d0_190 : DAt B0 190 (.iconst 0) 1 191 := ⟨at_190, rfl⟩
theorem d0_191 : DAt B0 191 (.iconst 0) 1 192 := ⟨at_191, rfl⟩
theorem d0_192 : DAt B0 192 (.invokestatic 27) 3 195 := ⟨at_192, rfl⟩
theorem d0_195 : DAt B0 195 (.lcmp) 1 196 := ⟨at_195, rfl⟩
theorem d0_196 : DAt B0 196 (.ifCond .eq 5) 3 199 := ⟨at_196, rfl⟩
theorem d0_199 : DAt B0 199 (.iconst 0) 1 200 := ⟨at_199, rfl⟩
theorem d0_200 : DAt B0 200 (.ireturn) 1 201 := ⟨at_200, rfl⟩
theorem d0_201 : DAt B0 201 (.goto 568) 3 204 := ⟨at_201, rfl⟩
theorem d0_204 : DAt B0 204 (.iload 11) 2 206 := ⟨at_204, rfl⟩
theorem d0_206 : DAt B0 206 (.iconst 4) 1 207 := ⟨at_206, rfl⟩
theorem d0_207 : DAt B0 207 (.if_icmp .le 10) 3 210 := ⟨at_207, rfl⟩
theorem d0_210 : DAt B0 210 (.iload 11) 2 212 := ⟨at_210, rfl⟩
theorem d0_212 : DAt B0 212 (.bipush 15) 2 214 := ⟨at_212, rfl⟩
theorem d0_214 : DAt B0 214 (.if_icmp .ne 136) 3 217 := ⟨at_214, rfl⟩
theorem d0_217 : DAt B0 217 (.iload 11) 2 219 := ⟨at_217, rfl⟩
theorem d0_219 : DAt B0 219 (.iconst 4) 1 220 := ⟨at_219, rfl⟩
theorem d0_220 : DAt B0 220 (.if_icmp .ne 7) 3 223 := ⟨at_220, rfl⟩
theorem d0_223 : DAt B0 223 (.iconst 1) 1 224 := ⟨at_223, rfl⟩
theorem d0_224 : DAt B0 224 (.goto 4) 3 227 := ⟨at_224, rfl⟩
theorem d0_227 : DAt B0 227 (.iconst 0) 1 228 := ⟨at_227, rfl⟩
theorem d0_228 : DAt B0 228 (.istore 18) 2 230 := ⟨at_228, rfl⟩
theorem d0_230 : DAt B0 230 (.iload_n 2) 1 231 := ⟨at_230, rfl⟩
theorem d0_231 : DAt B0 231 (.iload 16) 2 233 := ⟨at_231, rfl⟩
theorem d0_233 : DAt B0 233 (.iload 17) 2 235 := ⟨at_233, rfl⟩
theorem d0_235 : DAt B0 235 (.ifCond .ne 7) 3 238 := ⟨at_235, rfl⟩
theorem d0_238 : DAt B0 238 (.iconst 1) 1 239 := ⟨at_238, rfl⟩
theorem d0_239 : DAt B0 239 (.goto 4) 3 242 := ⟨at_239, rfl⟩
theorem d0_242 : DAt B0 242 (.iconst 0) 1 243 := ⟨at_242, rfl⟩
theorem d0_243 : DAt B0 243 (.iload 13) 2 245 := ⟨at_243, rfl⟩
theorem d0_245 : DAt B0 245 (.bipush 7) 2 247 := ⟨at_245, rfl⟩
theorem d0_247 : DAt B0 247 (.if_icmp .le 7) 3 250 := ⟨at_247, rfl⟩
theorem d0_250 : DAt B0 250 (.iconst 1) 1 251 := ⟨at_250, rfl⟩
theorem d0_251 : DAt B0 251 (.goto 4) 3 254 := ⟨at_251, rfl⟩
theorem d0_254 : DAt B0 254 (.iconst 0) 1 255 := ⟨at_254, rfl⟩
theorem d0_255 : DAt B0 255 (.invokestatic 13) 3 258 := ⟨at_255, rfl⟩
theorem d0_258 : DAt B0 258 (.istore 19) 2 260 := ⟨at_258, rfl⟩
theorem d0_260 : DAt B0 260 (.iload 18) 2 262 := ⟨at_260, rfl⟩
theorem d0_262 : DAt B0 262 (.ifCond .eq 14) 3 265 := ⟨at_262, rfl⟩
theorem d0_265 : DAt B0 265 (.aload_n 1) 1 266 := ⟨at_265, rfl⟩
theorem d0_266 : DAt B0 266 (.iload 12) 2 268 := ⟨at_266, rfl⟩
theorem d0_268 : DAt B0 268 (.iload 13) 2 270 := ⟨at_268, rfl⟩
theorem d0_270 : DAt B0 270 (.invokevirtual 31) 3 273 := ⟨at_270, rfl⟩
theorem d0_273 : DAt B0 273 (.goto 13) 3 276 := ⟨at_273, rfl⟩
theorem d0_276 : DAt B0 276 (.aload_n 1) 1 277 := ⟨at_276, rfl⟩
theorem d0_277 : DAt B0 277 (.iload 12) 2 279 := ⟨at_277, rfl⟩
theorem d0_279 : DAt B0 279 (.iload 13) 2 281 := ⟨at_279, rfl⟩
theorem d0_281 : DAt B0 281 (.iload 15) 2 283 := ⟨at_281, rfl⟩
theorem d0_283 : DAt B0 283 (.invokevirtual 35) 3 286 := ⟨at_283, rfl⟩
theorem d0_286 : DAt B0 286 (.istore 20) 2 288 := ⟨at_286, rfl⟩
theorem d0_288 : DAt B0 288 (.iload 20) 2 290 := ⟨at_288, rfl⟩
theorem d0_290 : DAt B0 290 (.iload 19) 2 292 := ⟨at_290, rfl⟩
theorem d0_292 : DAt B0 292 (.if_icmp .eq 5) 3 295 := ⟨at_292, rfl⟩
theorem d0_295 : DAt B0 295 (.iconst 0) 1 296 := ⟨at_295, rfl⟩
theorem d0_296 : DAt B0 296 (.ireturn) 1 297 := ⟨at_296, rfl⟩
theorem d0_297 : DAt B0 297 (.iload 19) 2 299 := ⟨at_297, rfl⟩
theorem d0_299 : DAt B0 299 (.ifCond .le 48) 3 302 := ⟨at_299, rfl⟩
theorem d0_302 : DAt B0 302 (.iload 19) 2 304 := ⟨at_302, rfl⟩
theorem d0_304 : DAt B0 304 (.istore_n 2) 1 305 := ⟨at_304, rfl⟩
theorem d0_305 : DAt B0 305 (.iload 18) 2 307 := ⟨at_305, rfl⟩
theorem d0_307 : DAt B0 307 (.ifCond .eq 15) 3 310 := ⟨at_307, rfl⟩
theorem d0_310 : DAt B0 310 (.iconst 3) 1 311 := ⟨at_310, rfl⟩
theorem d0_311 : DAt B0 311 (.iload 12) 2 313 := ⟨at_311, rfl⟩
theorem d0_313 : DAt B0 313 (.iload 13) 2 315 := ⟨at_313, rfl⟩
theorem d0_315 : DAt B0 315 (.iconst 0) 1 316 := ⟨at_315, rfl⟩
theorem d0_316 : DAt B0 316 (.invokestatic 27) 3 319 := ⟨at_316, rfl⟩
theorem d0_319 : DAt B0 319 (.goto 13) 3 322 := ⟨at_319, rfl⟩
theorem d0_322 : DAt B0 322 (.iconst 2) 1 323 := ⟨at_322, rfl⟩
theorem d0_323 : DAt B0 323 (.iload 12) 2 325 := ⟨at_323, rfl⟩
theorem d0_325 : DAt B0 325 (.iload 13) 2 327 := ⟨at_325, rfl⟩
theorem d0_327 : DAt B0 327 (.iload 15) 2 329 := ⟨at_327, rfl⟩
theorem d0_329 : DAt B0 329 (.invokestatic 27) 3 332 := ⟨at_329, rfl⟩
theorem d0_332 : DAt B0 332 (.lstore 21) 2 334 := ⟨at_332, rfl⟩
theorem d0_334 : DAt B0 334 (.aload_n 1) 1 335 := ⟨at_334, rfl⟩
theorem d0_335 : DAt B0 335 (.iload_n 2) 1 336 := ⟨at_335, rfl⟩
theorem d0_336 : DAt B0 336 (.invokevirtual 23) 3 339 := ⟨at_336, rfl⟩
theorem d0_339 : DAt B0 339 (.lload 21) 2 341 := ⟨at_339, rfl⟩
theorem d0_341 : DAt B0 341 (.lcmp) 1 342 := ⟨at_341, rfl⟩
theorem d0_342 : DAt B0 342 (.ifCond .eq 5) 3 345 := ⟨at_342, rfl⟩
theorem d0_345 : DAt B0 345 (.iconst 0) 1 346 := ⟨at_345, rfl⟩
theorem d0_346 : DAt B0 346 (.ireturn) 1 347 := ⟨at_346, rfl⟩
theorem d0_347 : DAt B0 347 (.goto 422) 3 350 := ⟨at_347, rfl⟩
theorem d0_350 : DAt B0 350 (.iload 11) 2 352 := ⟨at_350, rfl⟩
theorem d0_352 : DAt B0 352 (.bipush 7) 2 354 := ⟨at_352, rfl⟩
theorem d0_354 : DAt B0 354 (.if_icmp .gt 137) 3 357 := ⟨at_354, rfl⟩
theorem d0_357 : DAt B0 357 (.iload 11) 2 359 := ⟨at_357, rfl⟩
theorem d0_359 : DAt B0 359 (.bipush 7) 2 361 := ⟨at_359, rfl⟩
theorem d0_361 : DAt B0 361 (.if_icmp .ne 7) 3 364 := ⟨at_361, rfl⟩
theorem d0_364 : DAt B0 364 (.iconst 1) 1 365 := ⟨at_364, rfl⟩
theorem d0_365 : DAt B0 365 (.goto 4) 3 368 := ⟨at_365, rfl⟩
theorem d0_368 : DAt B0 368 (.iconst 0) 1 369 := ⟨at_368, rfl⟩
theorem d0_369 : DAt B0 369 (.istore 18) 2 371 := ⟨at_369, rfl⟩
theorem d0_371 : DAt B0 371 (.iload_n 2) 1 372 := ⟨at_371, rfl⟩
theorem d0_372 : DAt B0 372 (.iload 16) 2 374 := ⟨at_372, rfl⟩
theorem d0_374 : DAt B0 374 (.iload 17) 2 376 := ⟨at_374, rfl⟩
theorem d0_376 : DAt B0 376 (.ifCond .ne 7) 3 379 := ⟨at_376, rfl⟩
theorem d0_379 : DAt B0 379 (.iconst 1) 1 380 := ⟨at_379, rfl⟩
theorem d0_380 : DAt B0 380 (.goto 4) 3 383 := ⟨at_380, rfl⟩
theorem d0_383 : DAt B0 383 (.iconst 0) 1 384 := ⟨at_383, rfl⟩
theorem d0_384 : DAt B0 384 (.iconst 0) 1 385 := ⟨at_384, rfl⟩
theorem d0_385 : DAt B0 385 (.invokestatic 13) 3 388 := ⟨at_385, rfl⟩
theorem d0_388 : DAt B0 388 (.istore 19) 2 390 := ⟨at_388, rfl⟩
theorem d0_390 : DAt B0 390 (.iload 18) 2 392 := ⟨at_390, rfl⟩
theorem d0_392 : DAt B0 392 (.ifCond .eq 12) 3 395 := ⟨at_392, rfl⟩
theorem d0_395 : DAt B0 395 (.aload_n 1) 1 396 := ⟨at_395, rfl⟩
theorem d0_396 : DAt B0 396 (.iload 12) 2 398 := ⟨at_396, rfl⟩
theorem d0_398 : DAt B0 398 (.invokevirtual 39) 3 401 := ⟨at_398, rfl⟩
theorem d0_401 : DAt B0 401 (.goto 9) 3 404 := ⟨at_401, rfl⟩
theorem d0_404 : DAt B0 404 (.aload_n 1) 1 405 := ⟨at_404, rfl⟩
theorem d0_405 : DAt B0 405 (.iload 12) 2 407 := ⟨at_405, rfl⟩
theorem d0_407 : DAt B0 407 (.invokevirtual 42) 3 410 := ⟨at_407, rfl⟩
theorem d0_410 : DAt B0 410 (.istore 20) 2 412 := ⟨at_410, rfl⟩
theorem d0_412 : DAt B0 412 (.iload 20) 2 414 := ⟨at_412, rfl⟩
theorem d0_414 : DAt B0 414 (.iload 19) 2 416 := ⟨at_414, rfl⟩
theorem d0_416 : DAt B0 416 (.if_icmp .eq 5) 3 419 := ⟨at_416, rfl⟩
theorem d0_419 : DAt B0 419 (.iconst 0) 1 420 := ⟨at_419, rfl⟩
theorem d0_420 : DAt B0 420 (.ireturn) 1 421 := ⟨at_420, rfl⟩
theorem d0_421 : DAt B0 421 (.iload 19) 2 423 := ⟨at_421, rfl⟩
theorem d0_423 : DAt B0 423 (.ifCond .le 65) 3 426 := ⟨at_423, rfl⟩
theorem d0_426 : DAt B0 426 (.iload 19) 2 428 := ⟨at_426, rfl⟩
theorem d0_428 : DAt B0 428 (.istore_n 2) 1 429 := ⟨at_428, rfl⟩
theorem d0_429 : DAt B0 429 (.iload_n 3) 1 430 := ⟨at_429, rfl⟩
theorem d0_430 : DAt B0 430 (.iconst 1) 1 431 := ⟨at_430, rfl⟩
theorem d0_431 : DAt B0 431 (.iload 12) 2 433 := ⟨at_431, rfl⟩
theorem d0_433 : DAt B0 433 (.ishl) 1 434 := ⟨at_433, rfl⟩
theorem d0_434 : DAt B0 434 (.iconst (-1)) 1 435 := ⟨at_434, rfl⟩
theorem d0_435 : DAt B0 435 (.ixor) 1 436 := ⟨at_435, rfl⟩
theorem d0_436 : DAt B0 436 (.iand) 1 437 := ⟨at_436, rfl⟩
theorem d0_437 : DAt B0 437 (.istore_n 3) 1 438 := ⟨at_437, rfl⟩
theorem d0_438 : DAt B0 438 (.iinc 4 (-1)) 3 441 := ⟨at_438, rfl⟩
theorem d0_441 : DAt B0 441 (.iload 18) 2 443 := ⟨at_441, rfl⟩
theorem d0_443 : DAt B0 443 (.ifCond .ne 13) 3 446 := ⟨at_443, rfl⟩
theorem d0_446 : DAt B0 446 (.lload 8) 2 448 := ⟨at_446, rfl⟩
theorem d0_448 : DAt B0 448 (.lconst 1) 1 449 := ⟨at_448, rfl⟩
theorem d0_449 : DAt B0 449 (.iload_n 2) 1 450 := ⟨at_449, rfl⟩
theorem d0_450 : DAt B0 450 (.iconst 1) 1 451 := ⟨at_450, rfl⟩
theorem d0_451 : DAt B0 451 (.isub) 1 452 := ⟨at_451, rfl⟩
theorem d0_452 : DAt B0 452 (.lshl) 1 453 := ⟨at_452, rfl⟩
theorem d0_453 : DAt B0 453 (.lor) 1 454 := ⟨at_453, rfl⟩
theorem d0_454 : DAt B0 454 (.lstore 8) 2 456 := ⟨at_454, rfl⟩
theorem d0_456 : DAt B0 456 (.iload 18) 2 458 := ⟨at_456, rfl⟩
theorem d0_458 : DAt B0 458 (.ifCond .eq 7) 3 461 := ⟨at_458, rfl⟩
theorem d0_461 : DAt B0 461 (.iconst 5) 1 462 := ⟨at_461, rfl⟩
theorem d0_462 : DAt B0 462 (.goto 4) 3 465 := ⟨at_462, rfl⟩
theorem d0_465 : DAt B0 465 (.iconst 4) 1 466 := ⟨at_465, rfl⟩
theorem d0_466 : DAt B0 466 (.istore 21) 2 468 := ⟨at_466, rfl⟩
theorem d0_468 : DAt B0 468 (.aload_n 1) 1 469 := ⟨at_468, rfl⟩
theorem d0_469 : DAt B0 469 (.iload_n 2) 1 470 := ⟨at_469, rfl⟩
theorem d0_470 : DAt B0 470 (.invokevirtual 23) 3 473 := ⟨at_470, rfl⟩
theorem d0_473 : DAt B0 473 (.iload 21) 2 475 := ⟨at_473, rfl⟩
theorem d0_475 : DAt B0 475 (.iload 12) 2 477 := ⟨at_475, rfl⟩
theorem d0_477 : DAt B0 477 (.iconst 0) 1 478 := ⟨at_477, rfl⟩
theorem d0_478 : DAt B0 478 (.iconst 0) 1 479 := ⟨at_478, rfl⟩
theorem d0_479 : DAt B0 479 (.invokestatic 27) 3 482 := ⟨at_479, rfl⟩
theorem d0_482 : DAt B0 482 (.lcmp) 1 483 := ⟨at_482, rfl⟩
theorem d0_483 : DAt B0 483 (.ifCond .eq 5) 3 486 := ⟨at_483, rfl⟩
theorem d0_486 : DAt B0 486 (.iconst 0) 1 487 := ⟨at_486, rfl⟩
theorem d0_487 : DAt B0 487 (.ireturn) 1 488 := ⟨at_487, rfl⟩
theorem d0_488 : DAt B0 488 (.goto 281) 3 491 := ⟨at_488, rfl⟩
theorem d0_491 : DAt B0 491 (.iload 11) 2 493 := ⟨at_491, rfl⟩
theorem d0_493 : DAt B0 493 (.bipush 9) 2 495 := ⟨at_493, rfl⟩
theorem d0_495 : DAt B0 495 (.if_icmp .gt 90) 3 498 := ⟨at_495, rfl⟩
theorem d0_498 : DAt B0 498 (.aload_n 1) 1 499 := ⟨at_498, rfl⟩
theorem d0_499 : DAt B0 499 (.iconst 3) 1 500 := ⟨at_499, rfl⟩
theorem d0_500 : DAt B0 500 (.invokevirtual 45) 3 503 := ⟨at_500, rfl⟩
theorem d0_503 : DAt B0 503 (.istore 18) 2 505 := ⟨at_503, rfl⟩
theorem d0_505 : DAt B0 505 (.iconst 0) 1 506 := ⟨at_505, rfl⟩
theorem d0_506 : DAt B0 506 (.istore 19) 2 508 := ⟨at_506, rfl⟩
theorem d0_508 : DAt B0 508 (.iload 5) 2 510 := ⟨at_508, rfl⟩
theorem d0_510 : DAt B0 510 (.iconst 1) 1 511 := ⟨at_510, rfl⟩
theorem d0_511 : DAt B0 511 (.iadd) 1 512 := ⟨at_511, rfl⟩
theorem d0_512 : DAt B0 512 (.istore 20) 2 514 := ⟨at_512, rfl⟩
theorem d0_514 : DAt B0 514 (.iload 20) 2 516 := ⟨at_514, rfl⟩
theorem d0_516 : DAt B0 516 (.iload_n 2) 1 517 := ⟨at_516, rfl⟩
theorem d0_517 : DAt B0 517 (.if_icmp .gt 37) 3 520 := ⟨at_517, rfl⟩
theorem d0_520 : DAt B0 520 (.iload 19) 2 522 := ⟨at_520, rfl⟩
theorem d0_522 : DAt B0 522 (.iload 14) 2 524 := ⟨at_522, rfl⟩
theorem d0_524 : DAt B0 524 (.if_icmp .ge 24) 3 527 := ⟨at_524, rfl⟩
theorem d0_527 : DAt B0 527 (.lload 8) 2 529 := ⟨at_527, rfl⟩
theorem d0_529 : DAt B0 529 (.iload 20) 2 531 := ⟨at_529, rfl⟩
theorem d0_531 : DAt B0 531 (.iconst 1) 1 532 := ⟨at_531, rfl⟩
theorem d0_532 : DAt B0 532 (.isub) 1 533 := ⟨at_532, rfl⟩
theorem d0_533 : DAt B0 533 (.lushr) 1 534 := ⟨at_533, rfl⟩
theorem d0_534 : DAt B0 534 (.lconst 1) 1 535 := ⟨at_534, rfl⟩
theorem d0_535 : DAt B0 535 (.land) 1 536 := ⟨at_535, rfl⟩
theorem d0_536 : DAt B0 536 (.lconst 1) 1 537 := ⟨at_536, rfl⟩
theorem d0_537 : DAt B0 537 (.lcmp) 1 538 := ⟨at_537, rfl⟩
theorem d0_538 : DAt B0 538 (.ifCond .ne 10) 3 541 := ⟨at_538, rfl⟩
theorem d0_541 : DAt B0 541 (.iinc 19 1) 3 544 := ⟨at_541, rfl⟩
theorem d0_544 : DAt B0 544 (.iload 20) 2 546 := ⟨at_544, rfl⟩
theorem d0_546 : DAt B0 546 (.istore 5) 2 548 := ⟨at_546, rfl⟩
theorem d0_548 : DAt B0 548 (.iinc 20 1) 3 551 := ⟨at_548, rfl⟩
theorem d0_551 : DAt B0 551 (.goto (-37)) 3 554 := ⟨at_551, rfl⟩
theorem d0_554 : DAt B0 554 (.aload_n 1) 1 555 := ⟨at_554, rfl⟩
theorem d0_555 : DAt B0 555 (.iload 14) 2 557 := ⟨at_555, rfl⟩
theorem d0_557 : DAt B0 557 (.invokevirtual 48) 3 560 := ⟨at_557, rfl⟩
theorem d0_560 : DAt B0 560 (.iload 19) 2 562 := ⟨at_560, rfl⟩
theorem d0_562 : DAt B0 562 (.if_icmp .eq 5) 3 565 := ⟨at_562, rfl⟩
theorem d0_565 : DAt B0 565 (.iconst 0) 1 566 := ⟨at_565, rfl⟩
theorem d0_566 : DAt B0 566 (.ireturn) 1 567 := ⟨at_566, rfl⟩
theorem d0_567 : DAt B0 567 (.aload_n 1) 1 568 := ⟨at_567, rfl⟩
theorem d0_568 : DAt B0 568 (.iconst 3) 1 569 := ⟨at_568, rfl⟩
theorem d0_569 : DAt B0 569 (.invokevirtual 45) 3 572 := ⟨at_569, rfl⟩
theorem d0_572 : DAt B0 572 (.iload 18) 2 574 := ⟨at_572, rfl⟩
theorem d0_574 : DAt B0 574 (.iload 19) 2 576 := ⟨at_574, rfl⟩
theorem d0_576 : DAt B0 576 (.iadd) 1 577 := ⟨at_576, rfl⟩
theorem d0_577 : DAt B0 577 (.if_icmp .ge 5) 3 580 := ⟨at_577, rfl⟩
theorem d0_580 : DAt B0 580 (.iconst 0) 1 581 := ⟨at_580, rfl⟩
theorem d0_581 : DAt B0 581 (.ireturn) 1 582 := ⟨at_581, rfl⟩
theorem d0_582 : DAt B0 582 (.goto 187) 3 585 := ⟨at_582, rfl⟩
theorem d0_585 : DAt B0 585 (.iload 11) 2 587 := ⟨at_585, rfl⟩
theorem d0_587 : DAt B0 587 (.bipush 11) 2 589 := ⟨at_587, rfl⟩
theorem d0_589 : DAt B0 589 (.if_icmp .gt 107) 3 592 := ⟨at_589, rfl⟩
theorem d0_592 : DAt B0 592 (.aload_n 1) 1 593 := ⟨at_592, rfl⟩
theorem d0_593 : DAt B0 593 (.iconst 3) 1 594 := ⟨at_593, rfl⟩
theorem d0_594 : DAt B0 594 (.invokevirtual 45) 3 597 := ⟨at_594, rfl⟩
theorem d0_597 : DAt B0 597 (.istore 18) 2 599 := ⟨at_597, rfl⟩
theorem d0_599 : DAt B0 599 (.iload 14) 2 601 := ⟨at_599, rfl⟩
theorem d0_601 : DAt B0 601 (.iload 18) 2 603 := ⟨at_601, rfl⟩
theorem d0_603 : DAt B0 603 (.if_icmp .ge 8) 3 606 := ⟨at_603, rfl⟩
theorem d0_606 : DAt B0 606 (.iload 14) 2 608 := ⟨at_606, rfl⟩
theorem d0_608 : DAt B0 608 (.goto 5) 3 611 := ⟨at_608, rfl⟩
theorem d0_611 : DAt B0 611 (.iload 18) 2 613 := ⟨at_611, rfl⟩
theorem d0_613 : DAt B0 613 (.istore 19) 2 615 := ⟨at_613, rfl⟩
theorem d0_615 : DAt B0 615 (.aload_n 1) 1 616 := ⟨at_615, rfl⟩
theorem d0_616 : DAt B0 616 (.iload 14) 2 618 := ⟨at_616, rfl⟩
theorem d0_618 : DAt B0 618 (.invokevirtual 51) 3 621 := ⟨at_618, rfl⟩
theorem d0_621 : DAt B0 621 (.iload 19) 2 623 := ⟨at_621, rfl⟩
theorem d0_623 : DAt B0 623 (.if_icmp .eq 5) 3 626 := ⟨at_623, rfl⟩
theorem d0_626 : DAt B0 626 (.iconst 0) 1 627 := ⟨at_626, rfl⟩
theorem d0_627 : DAt B0 627 (.ireturn) 1 628 := ⟨at_627, rfl⟩
theorem d0_628 : DAt B0 628 (.aload_n 1) 1 629 := ⟨at_628, rfl⟩
theorem d0_629 : DAt B0 629 (.iconst 3) 1 630 := ⟨at_629, rfl⟩
theorem d0_630 : DAt B0 630 (.invokevirtual 45) 3 633 := ⟨at_630, rfl⟩
theorem d0_633 : DAt B0 633 (.iload 18) 2 635 := ⟨at_633, rfl⟩
theorem d0_635 : DAt B0 635 (.iload 19) 2 637 := ⟨at_635, rfl⟩
theorem d0_637 : DAt B0 637 (.isub) 1 638 := ⟨at_637, rfl⟩
theorem d0_638 : DAt B0 638 (.if_icmp .eq 5) 3 641 := ⟨at_638, rfl⟩
theorem d0_641 : DAt B0 641 (.iconst 0) 1 642 := ⟨at_641, rfl⟩
theorem d0_642 : DAt B0 642 (.ireturn) 1 643 := ⟨at_642, rfl⟩
theorem d0_643 : DAt B0 643 (.aload_n 1) 1 644 := ⟨at_643, rfl⟩
theorem d0_644 : DAt B0 644 (.iconst 4) 1 645 := ⟨at_644, rfl⟩
theorem d0_645 : DAt B0 645 (.invokevirtual 45) 3 648 := ⟨at_645, rfl⟩
theorem d0_648 : DAt B0 648 (.istore 20) 2 650 := ⟨at_648, rfl⟩
theorem d0_650 : DAt B0 650 (.iload 20) 2 652 := ⟨at_650, rfl⟩
theorem d0_652 : DAt B0 652 (.iload 6) 2 654 := ⟨at_652, rfl⟩
theorem d0_654 : DAt B0 654 (.if_icmp .eq 39) 3 657 := ⟨at_654, rfl⟩
theorem d0_657 : DAt B0 657 (.iload 20) 2 659 := ⟨at_657, rfl⟩
theorem d0_659 : DAt B0 659 (.iload 6) 2 661 := ⟨at_659, rfl⟩
theorem d0_661 : DAt B0 661 (.if_icmp .lt 10) 3 664 := ⟨at_661, rfl⟩
theorem d0_664 : DAt B0 664 (.iload 20) 2 666 := ⟨at_664, rfl⟩
theorem d0_666 : DAt B0 666 (.iload 5) 2 668 := ⟨at_666, rfl⟩
theorem d0_668 : DAt B0 668 (.if_icmp .le 5) 3 671 := ⟨at_668, rfl⟩
theorem d0_671 : DAt B0 671 (.iconst 0) 1 672 := ⟨at_671, rfl⟩
theorem d0_672 : DAt B0 672 (.ireturn) 1 673 := ⟨at_672, rfl⟩
theorem d0_673 : DAt B0 673 (.lload 8) 2 675 := ⟨at_673, rfl⟩
theorem d0_675 : DAt B0 675 (.iload 20) 2 677 := ⟨at_675, rfl⟩
theorem d0_677 : DAt B0 677 (.iconst 1) 1 678 := ⟨at_677, rfl⟩
theorem d0_678 : DAt B0 678 (.isub) 1 679 := ⟨at_678, rfl⟩
theorem d0_679 : DAt B0 679 (.lushr) 1 680 := ⟨at_679, rfl⟩
theorem d0_680 : DAt B0 680 (.lconst 1) 1 681 := ⟨at_680, rfl⟩
theorem d0_681 : DAt B0 681 (.land) 1 682 := ⟨at_681, rfl⟩
theorem d0_682 : DAt B0 682 (.lconst 1) 1 683 := ⟨at_682, rfl⟩
theorem d0_683 : DAt B0 683 (.lcmp) 1 684 := ⟨at_683, rfl⟩
theorem d0_684 : DAt B0 684 (.ifCond .eq 5) 3 687 := ⟨at_684, rfl⟩
theorem d0_687 : DAt B0 687 (.iconst 0) 1 688 := ⟨at_687, rfl⟩
theorem d0_688 : DAt B0 688 (.ireturn) 1 689 := ⟨at_688, rfl⟩
theorem d0_689 : DAt B0 689 (.iload 20) 2 691 := ⟨at_689, rfl⟩
theorem d0_691 : DAt B0 691 (.istore 6) 2 693 := ⟨at_691, rfl⟩
theorem d0_693 : DAt B0 693 (.goto 76) 3 696 := ⟨at_693, rfl⟩
theorem d0_696 : DAt B0 696 (.iload 11) 2 698 := ⟨at_696, rfl⟩
theorem d0_698 : DAt B0 698 (.bipush 12) 2 700 := ⟨at_698, rfl⟩
theorem d0_700 : DAt B0 700 (.if_icmp .ne 21) 3 703 := ⟨at_700, rfl⟩
theorem d0_703 : DAt B0 703 (.aload_n 1) 1 704 := ⟨at_703, rfl⟩
theorem d0_704 : DAt B0 704 (.invokevirtual 54) 3 707 := ⟨at_704, rfl⟩
theorem d0_707 : DAt B0 707 (.iload 6) 2 709 := ⟨at_707, rfl⟩
theorem d0_709 : DAt B0 709 (.if_icmp .eq 5) 3 712 := ⟨at_709, rfl⟩
theorem d0_712 : DAt B0 712 (.iconst 0) 1 713 := ⟨at_712, rfl⟩
theorem d0_713 : DAt B0 713 (.ireturn) 1 714 := ⟨at_713, rfl⟩
theorem d0_714 : DAt B0 714 (.iload 6) 2 716 := ⟨at_714, rfl⟩
theorem d0_716 : DAt B0 716 (.istore 7) 2 718 := ⟨at_716, rfl⟩
theorem d0_718 : DAt B0 718 (.goto 51) 3 721 := ⟨at_718, rfl⟩
theorem d0_721 : DAt B0 721 (.iload 11) 2 723 := ⟨at_721, rfl⟩
theorem d0_723 : DAt B0 723 (.bipush 13) 2 725 := ⟨at_723, rfl⟩
theorem d0_725 : DAt B0 725 (.if_icmp .ne 26) 3 728 := ⟨at_725, rfl⟩
theorem d0_728 : DAt B0 728 (.aload_n 1) 1 729 := ⟨at_728, rfl⟩
theorem d0_729 : DAt B0 729 (.invokevirtual 58) 3 732 := ⟨at_729, rfl⟩
theorem d0_732 : DAt B0 732 (.iconst 0) 1 733 := ⟨at_732, rfl⟩
theorem d0_733 : DAt B0 733 (.istore_n 3) 1 734 := ⟨at_733, rfl⟩
theorem d0_734 : DAt B0 734 (.iconst 0) 1 735 := ⟨at_734, rfl⟩
theorem d0_735 : DAt B0 735 (.istore 4) 2 737 := ⟨at_735, rfl⟩
theorem d0_737 : DAt B0 737 (.iload 7) 2 739 := ⟨at_737, rfl⟩
theorem d0_739 : DAt B0 739 (.istore 5) 2 741 := ⟨at_739, rfl⟩
theorem d0_741 : DAt B0 741 (.aload_n 1) 1 742 := ⟨at_741, rfl⟩
theorem d0_742 : DAt B0 742 (.iconst 3) 1 743 := ⟨at_742, rfl⟩
theorem d0_743 : DAt B0 743 (.invokevirtual 45) 3 746 := ⟨at_743, rfl⟩
theorem d0_746 : DAt B0 746 (.ifCond .eq 23) 3 749 := ⟨at_746, rfl⟩
theorem d0_749 : DAt B0 749 (.iconst 0) 1 750 := ⟨at_749, rfl⟩
theorem d0_750 : DAt B0 750 (.ireturn) 1 751 := ⟨at_750, rfl⟩
theorem d0_751 : DAt B0 751 (.aload_n 1) 1 752 := ⟨at_751, rfl⟩
theorem d0_752 : DAt B0 752 (.invokevirtual 61) 3 755 := ⟨at_752, rfl⟩
theorem d0_755 : DAt B0 755 (.iload 7) 2 757 := ⟨at_755, rfl⟩
theorem d0_757 : DAt B0 757 (.istore 5) 2 759 := ⟨at_757, rfl⟩
theorem d0_759 : DAt B0 759 (.aload_n 1) 1 760 := ⟨at_759, rfl⟩
theorem d0_760 : DAt B0 760 (.iconst 3) 1 761 := ⟨at_760, rfl⟩
theorem d0_761 : DAt B0 761 (.invokevirtual 45) 3 764 := ⟨at_761, rfl⟩
theorem d0_764 : DAt B0 764 (.ifCond .eq 5) 3 767 := ⟨at_764, rfl⟩
theorem d0_767 : DAt B0 767 (.iconst 0) 1 768 := ⟨at_767, rfl⟩
theorem d0_768 : DAt B0 768 (.ireturn) 1 769 := ⟨at_768, rfl⟩
theorem d0_769 : DAt B0 769 (.aload_n 1) 1 770 := ⟨at_769, rfl⟩
theorem d0_770 : DAt B0 770 (.iconst 0) 1 771 := ⟨at_770, rfl⟩
theorem d0_771 : DAt B0 771 (.invokevirtual 45) 3 774 := ⟨at_771, rfl⟩
theorem d0_774 : DAt B0 774 (.iload_n 2) 1 775 := ⟨at_774, rfl⟩
theorem d0_775 : DAt B0 775 (.if_icmp .eq 5) 3 778 := ⟨at_775, rfl⟩
theorem d0_778 : DAt B0 778 (.iconst 0) 1 779 := ⟨at_778, rfl⟩
theorem d0_779 : DAt B0 779 (.ireturn) 1 780 := ⟨at_779, rfl⟩
theorem d0_780 : DAt B0 780 (.aload_n 1) 1 781 := ⟨at_780, rfl⟩
theorem d0_781 : DAt B0 781 (.iconst 1) 1 782 := ⟨at_781, rfl⟩
theorem d0_782 : DAt B0 782 (.invokevirtual 45) 3 785 := ⟨at_782, rfl⟩
theorem d0_785 : DAt B0 785 (.iload 4) 2 787 := ⟨at_785, rfl⟩
theorem d0_787 : DAt B0 787 (.if_icmp .eq 5) 3 790 := ⟨at_787, rfl⟩
theorem d0_790 : DAt B0 790 (.iconst 0) 1 791 := ⟨at_790, rfl⟩
theorem d0_791 : DAt B0 791 (.ireturn) 1 792 := ⟨at_791, rfl⟩
theorem d0_792 : DAt B0 792 (.aload_n 1) 1 793 := ⟨at_792, rfl⟩
theorem d0_793 : DAt B0 793 (.iconst 2) 1 794 := ⟨at_793, rfl⟩
theorem d0_794 : DAt B0 794 (.invokevirtual 45) 3 797 := ⟨at_794, rfl⟩
theorem d0_797 : DAt B0 797 (.iload 5) 2 799 := ⟨at_797, rfl⟩
theorem d0_799 : DAt B0 799 (.if_icmp .eq 5) 3 802 := ⟨at_799, rfl⟩
theorem d0_802 : DAt B0 802 (.iconst 0) 1 803 := ⟨at_802, rfl⟩
theorem d0_803 : DAt B0 803 (.ireturn) 1 804 := ⟨at_803, rfl⟩
theorem d0_804 : DAt B0 804 (.aload_n 1) 1 805 := ⟨at_804, rfl⟩
theorem d0_805 : DAt B0 805 (.iconst 4) 1 806 := ⟨at_805, rfl⟩
theorem d0_806 : DAt B0 806 (.invokevirtual 45) 3 809 := ⟨at_806, rfl⟩
theorem d0_809 : DAt B0 809 (.iload 6) 2 811 := ⟨at_809, rfl⟩
theorem d0_811 : DAt B0 811 (.if_icmp .eq 5) 3 814 := ⟨at_811, rfl⟩
theorem d0_814 : DAt B0 814 (.iconst 0) 1 815 := ⟨at_814, rfl⟩
theorem d0_815 : DAt B0 815 (.ireturn) 1 816 := ⟨at_815, rfl⟩
theorem d0_816 : DAt B0 816 (.aload_n 1) 1 817 := ⟨at_816, rfl⟩
theorem d0_817 : DAt B0 817 (.iconst 5) 1 818 := ⟨at_817, rfl⟩
theorem d0_818 : DAt B0 818 (.invokevirtual 45) 3 821 := ⟨at_818, rfl⟩
theorem d0_821 : DAt B0 821 (.iload 7) 2 823 := ⟨at_821, rfl⟩
theorem d0_823 : DAt B0 823 (.if_icmp .eq 5) 3 826 := ⟨at_823, rfl⟩
theorem d0_826 : DAt B0 826 (.iconst 0) 1 827 := ⟨at_826, rfl⟩
theorem d0_827 : DAt B0 827 (.ireturn) 1 828 := ⟨at_827, rfl⟩
theorem d0_828 : DAt B0 828 (.aload_n 1) 1 829 := ⟨at_828, rfl⟩
theorem d0_829 : DAt B0 829 (.iload_n 2) 1 830 := ⟨at_829, rfl⟩
theorem d0_830 : DAt B0 830 (.iconst 1) 1 831 := ⟨at_830, rfl⟩
theorem d0_831 : DAt B0 831 (.iadd) 1 832 := ⟨at_831, rfl⟩
theorem d0_832 : DAt B0 832 (.invokevirtual 23) 3 835 := ⟨at_832, rfl⟩
theorem d0_835 : DAt B0 835 (.lconst 0) 1 836 := ⟨at_835, rfl⟩
theorem d0_836 : DAt B0 836 (.lcmp) 1 837 := ⟨at_836, rfl⟩
theorem d0_837 : DAt B0 837 (.ifCond .eq 5) 3 840 := ⟨at_837, rfl⟩
theorem d0_840 : DAt B0 840 (.iconst 0) 1 841 := ⟨at_840, rfl⟩
theorem d0_841 : DAt B0 841 (.ireturn) 1 842 := ⟨at_841, rfl⟩
theorem d0_842 : DAt B0 842 (.iinc 10 4) 3 845 := ⟨at_842, rfl⟩
theorem d0_845 : DAt B0 845 (.goto (-809)) 3 848 := ⟨at_845, rfl⟩
theorem d0_848 : DAt B0 848 (.iconst 1) 1 849 := ⟨at_848, rfl⟩
theorem d0_849 : DAt B0 849 (.ireturn) 1 850 := ⟨at_849, rfl⟩
theorem ar1 : arity B1 4 := ⟨[.int, .int, .int, .int], none, by decide +kernel, rfl⟩
theorem ar2 : arity B2 3 := ⟨[.int, .int, .int], some .int, by decide +kernel, rfl⟩
theorem ar3 : arity B3 4 := ⟨[.int, .boolean, .boolean, .boolean], some .int, by decide +kernel, rfl⟩
theorem ar4 : arity B4 3 := ⟨[.int, .int, .int], some .int, by decide +kernel, rfl⟩
theorem ar5 : arity B5 4 := ⟨[.int, .int, .int, .int], some .int, by decide +kernel, rfl⟩
theorem ar6 : arity B6 1 := ⟨[.int], some .int, by decide +kernel, rfl⟩
theorem ar7 : arity B7 1 := ⟨[.int], some .boolean, by decide +kernel, rfl⟩
theorem ar8 : arity B8 1 := ⟨[.int], some .int, by decide +kernel, rfl⟩
theorem ar9 : arity B9 0 := ⟨[], some .int, by decide +kernel, rfl⟩
theorem ar10 : arity B10 1 := ⟨[.int], some .long, by decide +kernel, rfl⟩
theorem ar11 : arity B11 1 := ⟨[.int], some .int, by decide +kernel, rfl⟩
theorem ar12 : arity B12 0 := ⟨[], some .boolean, by decide +kernel, rfl⟩
theorem ar13 : arity B13 4 := ⟨[.int, .int, .int, .int], some .int, by decide +kernel, rfl⟩
theorem ar14 : arity B14 4 := ⟨[.int, .int, .int, .int], some .long, by decide +kernel, rfl⟩
theorem ar15 : arity B15 1 := ⟨[.int], some .boolean, by decide +kernel, rfl⟩
theorem ar16 : arity B16 1 := ⟨[.int], some .int, by decide +kernel, rfl⟩
theorem ar17 : arity B17 1 := ⟨[.int], some .int, by decide +kernel, rfl⟩
theorem ar18 : arity B18 0 := ⟨[], none, by decide +kernel, rfl⟩
theorem ar19 : arity B19 0 := ⟨[], none, by decide +kernel, rfl⟩
theorem ar20 : arity B20 0 := ⟨[], none, by decide +kernel, rfl⟩
theorem ar21 : arity B21 1 := ⟨[.int], some .int, by decide +kernel, rfl⟩
theorem ar22 : arity B22 0 := ⟨[], none, by decide +kernel, rfl⟩
theorem ar23 : arity B23 2 := ⟨[.int, .int], some .int, by decide +kernel, rfl⟩
theorem ar24 : arity B24 1 := ⟨[.int], some .int, by decide +kernel, rfl⟩
theorem ar25 : arity B25 1 := ⟨[.int], some .int, by decide +kernel, rfl⟩
theorem ar26 : arity B26 0 := ⟨[], some .int, by decide +kernel, rfl⟩
theorem ar27 : arity B27 3 := ⟨[.int, .int, .int], none, by decide +kernel, rfl⟩
theorem ar28 : arity B28 1 := ⟨[.int], none, by decide +kernel, rfl⟩
theorem ar29 : arity B29 4 := ⟨[.int, .int, .int, .int], none, by decide +kernel, rfl⟩
theorem ar30 : arity B30 0 := ⟨[], none, by decide +kernel, rfl⟩
theorem ar31 : arity B31 0 := ⟨[], none, by decide +kernel, rfl⟩
theorem cw1 : code_w B1 := ⟨mem1 5 rfl, mem1 2 rfl, by decide⟩
theorem cw2 : code_w B2 := ⟨mem1 48 rfl, mem1 2 rfl, by decide⟩
theorem cw3 : code_w B3 := ⟨mem1 72 rfl, mem1 71 rfl, by decide⟩
theorem cw4 : code_w B4 := ⟨mem1 77 rfl, mem1 2 rfl, by decide⟩
theorem cw5 : code_w B5 := ⟨mem1 81 rfl, mem1 2 rfl, by decide⟩
theorem cw6 : code_w B6 := ⟨mem1 85 rfl, mem1 2 rfl, by decide⟩
theorem cw7 : code_w B7 := ⟨mem1 89 rfl, mem1 2 rfl, by decide⟩
theorem cw8 : code_w B8 := ⟨mem1 94 rfl, mem1 2 rfl, by decide⟩
theorem cw9 : code_w B9 := ⟨mem1 98 rfl, mem1 2 rfl, by decide⟩
theorem cw10 : code_w B10 := ⟨mem1 103 rfl, mem1 2 rfl, by decide⟩
theorem cw11 : code_w B11 := ⟨mem1 108 rfl, mem1 2 rfl, by decide⟩
theorem cw12 : code_w B12 := ⟨mem1 112 rfl, mem1 2 rfl, by decide⟩
theorem cw13 : code_w B13 := ⟨mem1 116 rfl, mem1 2 rfl, by decide⟩
theorem cw14 : code_w B14 := ⟨mem1 120 rfl, mem1 71 rfl, by decide⟩
theorem cw15 : code_w B15 := ⟨mem1 125 rfl, mem1 2 rfl, by decide⟩
theorem cw16 : code_w B16 := ⟨mem1 130 rfl, mem1 2 rfl, by decide⟩
theorem cw17 : code_w B17 := ⟨mem1 134 rfl, mem1 2 rfl, by decide⟩
theorem cw18 : code_w B18 := ⟨mem1 139 rfl, mem1 2 rfl, by decide⟩
theorem cw19 : code_w B19 := ⟨mem1 143 rfl, mem1 2 rfl, by decide⟩
theorem cw20 : code_w B20 := ⟨mem1 147 rfl, mem1 2 rfl, by decide⟩
theorem cw21 : code_w B21 := ⟨mem1 152 rfl, mem1 2 rfl, by decide⟩
theorem cw22 : code_w B22 := ⟨mem1 157 rfl, mem1 2 rfl, by decide⟩
theorem cw23 : code_w B23 := ⟨mem1 162 rfl, mem1 2 rfl, by decide⟩
theorem cw24 : code_w B24 := ⟨mem1 167 rfl, mem1 2 rfl, by decide⟩
theorem cw25 : code_w B25 := ⟨mem1 172 rfl, mem1 2 rfl, by decide⟩
theorem cw26 : code_w B26 := ⟨mem1 177 rfl, mem1 2 rfl, by decide⟩
theorem cw27 : code_w B27 := ⟨mem1 181 rfl, mem1 2 rfl, by decide⟩
theorem cw28 : code_w B28 := ⟨mem1 185 rfl, mem1 2 rfl, by decide⟩
theorem cw29 : code_w B29 := ⟨mem1 189 rfl, mem1 2 rfl, by decide⟩
theorem cw30 : code_w B30 := ⟨mem1 193 rfl, mem1 2 rfl, by decide⟩
theorem cw31 : code_w B31 := ⟨mem1 197 rfl, mem1 2 rfl, by decide⟩
theorem rk0_3_0 : room_ok B0 B3 0 := by decide
theorem rk0_4_0 : room_ok B0 B4 0 := by decide
theorem rk0_8_0 : room_ok B0 B8 0 := by decide
theorem rk0_10_0 : room_ok B0 B10 0 := by decide
theorem rk0_11_0 : room_ok B0 B11 0 := by decide
theorem rk0_14_0 : room_ok B0 B14 0 := by decide
theorem rk0_14_2 : room_ok B0 B14 2 := by decide
theorem rk0_16_0 : room_ok B0 B16 0 := by decide
theorem rk0_18_0 : room_ok B0 B18 0 := by decide
theorem rk0_21_0 : room_ok B0 B21 0 := by decide
theorem rk0_22_0 : room_ok B0 B22 0 := by decide
theorem rk0_23_0 : room_ok B0 B23 0 := by decide
theorem rk0_24_0 : room_ok B0 B24 0 := by decide
theorem rk0_25_0 : room_ok B0 B25 0 := by decide
theorem rk0_26_0 : room_ok B0 B26 0 := by decide
theorem rk1_2_1 : room_ok B1 B2 1 := by decide
theorem rk4_5_0 : room_ok B4 B5 0 := by decide
theorem rk5_6_0 : room_ok B5 B6 0 := by decide
theorem rk5_12_0 : room_ok B5 B12 0 := by decide
theorem rk5_13_0 : room_ok B5 B13 0 := by decide
theorem rk5_15_0 : room_ok B5 B15 0 := by decide
theorem rk6_7_0 : room_ok B6 B7 0 := by decide
theorem rk8_9_0 : room_ok B8 B9 0 := by decide
theorem rk11_7_0 : room_ok B11 B7 0 := by decide
theorem rk11_12_0 : room_ok B11 B12 0 := by decide
theorem rk11_13_0 : room_ok B11 B13 0 := by decide
theorem rk16_17_0 : room_ok B16 B17 0 := by decide
theorem rk16_28_0 : room_ok B16 B28 0 := by decide
theorem rk18_19_0 : room_ok B18 B19 0 := by decide
theorem rk18_20_0 : room_ok B18 B20 0 := by decide
theorem rk21_6_0 : room_ok B21 B6 0 := by decide
theorem rk21_12_0 : room_ok B21 B12 0 := by decide
theorem rk21_13_0 : room_ok B21 B13 0 := by decide
theorem rk22_19_0 : room_ok B22 B19 0 := by decide
theorem rk22_20_0 : room_ok B22 B20 0 := by decide
theorem rk23_5_0 : room_ok B23 B5 0 := by decide
theorem rk24_30_0 : room_ok B24 B30 0 := by decide
theorem rk25_6_0 : room_ok B25 B6 0 := by decide
theorem rk25_12_0 : room_ok B25 B12 0 := by decide
theorem rk25_13_0 : room_ok B25 B13 0 := by decide
theorem rk25_27_0 : room_ok B25 B27 0 := by decide
theorem rk28_29_0 : room_ok B28 B29 0 := by decide
theorem rk30_31_0 : room_ok B30 B31 0 := by decide
def X_clamp (ob : Rec) (i1 : Int32) (i2 : Int32) (i3 : Int32) : Option (Int32) :=
  if i1 < i2 then
    some i2
  else
    if i3 < i1 then
      some i3
    else
      some i1
set_option maxRecDepth 65536 in
set_option maxHeartbeats 4000000 in
theorem X_clamp_p {C : Ctx} {top : Nat} {a : Nat} {H : List (Nat × Nat × Rec)} {ob : Rec} {res : Int32} (i1 : Int32) (i2 : Int32) (i3 : Int32) (hf : X_clamp ob i1 i2 i3 = some res) : Runs C B2 0 0 0 [vr a, vi i1, vi i2, vi i3] [] (top, (a, 17, ob) :: H) (Ans (some (.int res)) (top, (a, 17, ob) :: H)) := by
  delta X_clamp at hf
  refine Runs.iloadN d2_0 rfl <| Runs.iloadN d2_1 rfl <| ?_
  refine ite_el hf (fun hc1 hf => ?_) (fun hc1 hf => ?_)
  · refine Runs.icN d2_2 (tlt hc1).2.1 <| ?_
    obtain rfl := Option.some.inj hf
    exact Runs.iloadN d2_5 rfl <| Runs.retI d2_6 rfl ⟨by decide, by decide⟩ ⟨rfl, rfl⟩
  · refine Runs.icY (pc' := 7) d2_2 (flt hc1).2.1 (by decide) <| ?_
    refine Runs.iloadN d2_7 rfl <| Runs.iloadN d2_8 rfl <| ?_
    refine ite_el hf (fun hc2 hf => ?_) (fun hc2 hf => ?_)
    · refine Runs.icN d2_9 (tlt hc2).2.2.2 <| ?_
      obtain rfl := Option.some.inj hf
      exact Runs.iloadN d2_12 rfl <| Runs.retI d2_13 rfl ⟨by decide, by decide⟩ ⟨rfl, rfl⟩
    · refine Runs.icY (pc' := 14) d2_9 (flt hc2).2.2.2 (by decide) <| ?_
      obtain rfl := Option.some.inj hf
      exact Runs.iloadN d2_14 rfl <| Runs.retI d2_15 rfl ⟨by decide, by decide⟩ ⟨rfl, rfl⟩
theorem X_clamp_pay {C : Ctx} {top : Nat} {a : Nat} {H : List (Nat × Nat × Rec)} {ob : Rec} {res : Int32} {i1 : Int32} {i2 : Int32} {i3 : Int32} (hf : X_clamp ob i1 i2 i3 = some res) : Pays C B2 [.ref a, .int i1, .int i2, .int i3] (top, (a, 17, ob) :: H) (Ans (some (.int res)) (top, (a, 17, ob) :: H)) :=
  Pays.of pnK (Nat.le_of_ble_eq_true rfl) (P := [vr a, vi i1, vi i2, vi i3]) 0 rfl (X_clamp_p i1 i2 i3 hf)
def X_init (i1 : Int32) (i2 : Int32) (i3 : Int32) (i4 : Int32) : Option (Rec) :=
  (X_clamp zrec i1 (8 : Int32) (32 : Int32)).bind fun r1 =>
  (X_clamp (sI zrec 0 r1) i2 (2 : Int32) (8 : Int32)).bind fun r3 =>
  (X_clamp (sI (sI zrec 0 r1) 1 r3) i3 (16 : Int32) (128 : Int32)).bind fun r5 =>
  (X_clamp (sI (sI (sI zrec 0 r1) 1 r3) 2 r5) i4 (2 : Int32) (32 : Int32)).bind fun r7 =>
  some (sI (sI (sI (sI (sI (sI (sI (sI (sI (sI zrec 0 r1) 1 r3) 2 r5) 3 r7) 4 (0 : Int32)) 5 (0 : Int32)) 6 (0 : Int32)) 7 (0 : Int32)) 8 (0 : Int32)) 9 (0 : Int32))
set_option maxRecDepth 65536 in
set_option maxHeartbeats 4000000 in
theorem X_init_p {C : Ctx} {a : Nat} {H : List (Nat × Nat × Rec)} {res : Rec} (i1 : Int32) (i2 : Int32) (i3 : Int32) (i4 : Int32) (hf : X_init i1 i2 i3 i4 = some res) : Runs C B1 0 0 0 [vr a, vi i1, vi i2, vi i3, vi i4] [] (a + 1, (a, 0, zrec) :: H) (Ans none (a + 1 + 17, (a, 17, res) :: H)) := by
  delta X_init at hf
  refine Runs.aloadN d1_0 rfl <| Runs.initO (W := 0) d1_1 w6 w7 w8 rfl (by decide) <| Runs.aloadN d1_4 rfl <| Runs.sipush d1_5 cs_129 <| Runs.newArr (j' := 1) (top' := a + 1 + 1) (k' := 1) (n' := 129) d1_8 d1_10 fA_0 w10 rfl w9 (Or.inl w11) rfl (by decide) ⟨by decide, by decide⟩ ⟨fun _ => rfl, fun _ => rfl⟩ rfl rfl rfl (by decide) <| Runs.aloadN d1_13 rfl <| Runs.sipush d1_14 cs_129 <| Runs.newArr (j' := 2) (top' := a + 1 + 2) (k' := 2) (n' := 258) d1_17 d1_19 fA_1 w12 rfl w9 (Or.inl w13) rfl (by decide) ⟨by decide, by decide⟩ ⟨fun _ => rfl, fun _ => rfl⟩ rfl rfl rfl (by decide) <| Runs.aloadN d1_22 rfl <| Runs.sipush d1_23 cs_129 <| Runs.newArr (j' := 3) (top' := a + 1 + 3) (k' := 3) (n' := 387) d1_26 d1_28 fA_2 w14 rfl w9 (Or.inl w15) rfl (by decide) ⟨by decide, by decide⟩ ⟨fun _ => rfl, fun _ => rfl⟩ rfl rfl rfl (by decide) <| Runs.aloadN d1_31 rfl <| ?_
  refine Runs.sipush d1_32 cs_129 <| Runs.newArr (j' := 4) (top' := a + 1 + 4) (k' := 4) (n' := 516) d1_35 d1_37 fA_3 w16 rfl w9 (Or.inl w17) rfl (by decide) ⟨by decide, by decide⟩ ⟨fun _ => rfl, fun _ => rfl⟩ rfl rfl rfl (by decide) <| Runs.aloadN d1_40 rfl <| Runs.sipush d1_41 cs_129 <| Runs.newArr (j' := 5) (top' := a + 1 + 5) (k' := 5) (n' := 645) d1_44 d1_46 fA_4 w18 rfl w9 (Or.inl w19) rfl (by decide) ⟨by decide, by decide⟩ ⟨fun _ => rfl, fun _ => rfl⟩ rfl rfl rfl (by decide) <| Runs.aloadN d1_49 rfl <| Runs.bipush d1_50 cb_8 <| Runs.newArr (j' := 6) (top' := a + 1 + 6) (k' := 6) (n' := 653) d1_52 d1_54 fA_5 w21 rfl w20 (Or.inl w22) rfl (by decide) ⟨by decide, by decide⟩ ⟨fun _ => rfl, fun _ => rfl⟩ rfl rfl rfl (by decide) <| Runs.aloadN d1_57 rfl <| Runs.bipush d1_58 cb_8 <| Runs.newArr (j' := 7) (top' := a + 1 + 7) (k' := 7) (n' := 661) d1_60 d1_62 fA_6 w23 rfl w9 (Or.inl w24) rfl (by decide) ⟨by decide, by decide⟩ ⟨fun _ => rfl, fun _ => rfl⟩ rfl rfl rfl (by decide) <| Runs.aloadN d1_65 rfl <| ?_
  refine Runs.bipush d1_66 cb_32 <| Runs.newArr (j' := 8) (top' := a + 1 + 8) (k' := 8) (n' := 693) d1_68 d1_70 fA_7 w25 rfl w20 (Or.inl w26) rfl (by decide) ⟨by decide, by decide⟩ ⟨fun _ => rfl, fun _ => rfl⟩ rfl rfl rfl (by decide) <| Runs.aloadN d1_73 rfl <| Runs.bipush d1_74 cb_32 <| Runs.newArr (j' := 9) (top' := a + 1 + 9) (k' := 9) (n' := 725) d1_76 d1_78 fA_8 w27 rfl w9 (Or.inl w28) rfl (by decide) ⟨by decide, by decide⟩ ⟨fun _ => rfl, fun _ => rfl⟩ rfl rfl rfl (by decide) <| Runs.aloadN d1_81 rfl <| Runs.bipush d1_82 cb_32 <| Runs.newArr (j' := 10) (top' := a + 1 + 10) (k' := 10) (n' := 757) d1_84 d1_86 fA_9 w29 rfl w20 (Or.inl w30) rfl (by decide) ⟨by decide, by decide⟩ ⟨fun _ => rfl, fun _ => rfl⟩ rfl rfl rfl (by decide) <| Runs.aloadN d1_89 rfl <| Runs.bipush d1_90 cb_32 <| Runs.newArr (j' := 11) (top' := a + 1 + 11) (k' := 11) (n' := 789) d1_92 d1_94 fA_10 w31 rfl w9 (Or.inl w32) rfl (by decide) ⟨by decide, by decide⟩ ⟨fun _ => rfl, fun _ => rfl⟩ rfl rfl rfl (by decide) <| Runs.aloadN d1_97 rfl <| ?_
  refine Runs.bipush d1_98 cb_32 <| Runs.newArr (j' := 12) (top' := a + 1 + 12) (k' := 12) (n' := 821) d1_100 d1_102 fA_11 w33 rfl w9 (Or.inl w34) rfl (by decide) ⟨by decide, by decide⟩ ⟨fun _ => rfl, fun _ => rfl⟩ rfl rfl rfl (by decide) <| Runs.aloadN d1_105 rfl <| Runs.bipush d1_106 cb_32 <| Runs.newArr (j' := 13) (top' := a + 1 + 13) (k' := 13) (n' := 853) d1_108 d1_110 fA_12 w35 rfl w9 (Or.inl w36) rfl (by decide) ⟨by decide, by decide⟩ ⟨fun _ => rfl, fun _ => rfl⟩ rfl rfl rfl (by decide) <| Runs.aloadN d1_113 rfl <| Runs.sipush d1_114 cs_128 <| Runs.newArr (j' := 14) (top' := a + 1 + 14) (k' := 14) (n' := 981) d1_117 d1_119 fA_13 w37 rfl w9 (Or.inl w38) rfl (by decide) ⟨by decide, by decide⟩ ⟨fun _ => rfl, fun _ => rfl⟩ rfl rfl rfl (by decide) <| Runs.aloadN d1_122 rfl <| Runs.sipush d1_123 cs_128 <| Runs.newArr (j' := 15) (top' := a + 1 + 15) (k' := 15) (n' := 1109) d1_126 d1_128 fA_14 w39 rfl w9 (Or.inl w40) rfl (by decide) ⟨by decide, by decide⟩ ⟨fun _ => rfl, fun _ => rfl⟩ rfl rfl rfl (by decide) <| Runs.aloadN d1_131 rfl <| ?_
  refine Runs.sipush d1_132 cs_128 <| Runs.newArr (j' := 16) (top' := a + 1 + 16) (k' := 16) (n' := 1237) d1_135 d1_137 fA_15 w41 rfl w9 (Or.inl w42) rfl (by decide) ⟨by decide, by decide⟩ ⟨fun _ => rfl, fun _ => rfl⟩ rfl rfl rfl (by decide) <| Runs.aloadN d1_140 rfl <| Runs.sipush d1_141 cs_128 <| Runs.newArr (j' := 17) (top' := a + 1 + 17) (k' := 17) (n' := 1365) d1_144 d1_146 fA_16 w43 rfl w9 (Or.inl w44) rfl (by decide) ⟨by decide, by decide⟩ ⟨fun _ => rfl, fun _ => rfl⟩ rfl rfl rfl (by decide) <| Runs.aloadN d1_149 rfl <| Runs.aloadN d1_150 rfl <| Runs.iloadN d1_151 rfl <| Runs.bipush d1_152 cb_8 <| Runs.bipush d1_154 cb_32 <| ?_
  refine bind_el hf fun r1 hg2 hf => ?_
  refine Runs.callP (N := B2) (W := 1) (as := [.int i1, .int (8 : Int32), .int (32 : Int32)]) (S' := [.ref a]) d1_156 w45 w46 w47 rfl cw2 ar2 rk1_2_1 (by decide) rfl rfl (X_clamp_pay hg2) <| ans1 <| Runs.putI d1_159 w49 fS_0 (Or.inl w50) <| Runs.aloadN d1_162 rfl <| Runs.aloadN d1_163 rfl <| Runs.iloadN d1_164 rfl <| Runs.iconst d1_165 ci_2 <| Runs.bipush d1_166 cb_8 <| ?_
  refine bind_el hf fun r3 hg4 hf => ?_
  refine Runs.callP (N := B2) (W := 1) (as := [.int i2, .int (2 : Int32), .int (8 : Int32)]) (S' := [.ref a]) d1_168 w45 w46 w47 rfl cw2 ar2 rk1_2_1 (by decide) rfl rfl (X_clamp_pay hg4) <| ans1 <| Runs.putI d1_171 w51 fS_1 (Or.inl w52) <| Runs.aloadN d1_174 rfl <| Runs.aloadN d1_175 rfl <| Runs.iloadN d1_176 rfl <| Runs.bipush d1_177 cb_16 <| Runs.sipush d1_179 cs_128 <| ?_
  refine bind_el hf fun r5 hg6 hf => ?_
  refine Runs.callP (N := B2) (W := 1) (as := [.int i3, .int (16 : Int32), .int (128 : Int32)]) (S' := [.ref a]) d1_182 w45 w46 w47 rfl cw2 ar2 rk1_2_1 (by decide) rfl rfl (X_clamp_pay hg6) <| ans1 <| Runs.putI d1_185 w53 fS_2 (Or.inl w54) <| Runs.aloadN d1_188 rfl <| Runs.aloadN d1_189 rfl <| Runs.iload d1_190 rfl <| Runs.iconst d1_192 ci_2 <| Runs.bipush d1_193 cb_32 <| ?_
  refine bind_el hf fun r7 hg8 hf => ?_
  refine Runs.callP (N := B2) (W := 1) (as := [.int i4, .int (2 : Int32), .int (32 : Int32)]) (S' := [.ref a]) d1_195 w45 w46 w47 rfl cw2 ar2 rk1_2_1 (by decide) rfl rfl (X_clamp_pay hg8) <| ans1 <| Runs.putI d1_198 w55 fS_3 (Or.inl w56) <| Runs.aloadN d1_201 rfl <| Runs.iconst d1_202 ci_0 <| Runs.putI d1_203 w57 fS_4 (Or.inl w58) <| Runs.aloadN d1_206 rfl <| Runs.iconst d1_207 ci_0 <| Runs.putI d1_208 w59 fS_5 (Or.inl w60) <| Runs.aloadN d1_211 rfl <| Runs.iconst d1_212 ci_0 <| Runs.putI d1_213 w61 fS_6 (Or.inl w62) <| Runs.aloadN d1_216 rfl <| ?_
  obtain rfl := Option.some.inj hf
  exact Runs.iconst d1_217 ci_0 <| Runs.putI d1_218 w63 fS_7 (Or.inl w64) <| Runs.aloadN d1_221 rfl <| Runs.iconst d1_222 ci_0 <| Runs.putI d1_223 w65 fS_8 (Or.inl w66) <| Runs.aloadN d1_226 rfl <| Runs.iconst d1_227 ci_0 <| Runs.putI d1_228 w67 fS_9 (Or.inl w68) <| Runs.retV d1_231 rfl ⟨by decide, by decide⟩ ⟨rfl, rfl⟩
theorem X_init_pay {C : Ctx} {a : Nat} {H : List (Nat × Nat × Rec)} {res : Rec} {i1 : Int32} {i2 : Int32} {i3 : Int32} {i4 : Int32} (hf : X_init i1 i2 i3 i4 = some res) : Pays C B1 [.ref a, .int i1, .int i2, .int i3, .int i4] (a + 1, (a, 0, zrec) :: H) (Ans none (a + 1 + 17, (a, 17, res) :: H)) :=
  Pays.of pnK (Nat.le_of_ble_eq_true rfl) (P := [vr a, vi i1, vi i2, vi i3, vi i4]) 0 rfl (X_init_p i1 i2 i3 i4 hf)
def L_want (i0 : Int32) (i1 : Int32) (i2 : Int32) (i3 : Int32) : Option (Int32) :=
  if i1 = (0 : Int32) then
    some (-1 : Int32)
  else
    if i2 = (0 : Int32) then
      if i3 = (0 : Int32) then
        if i0 = (64 : Int32) then
          some (-4 : Int32)
        else
          some (i0 + (1 : Int32))
      else
        some (-3 : Int32)
    else
      some (-2 : Int32)
set_option maxRecDepth 65536 in
set_option maxHeartbeats 4000000 in
theorem L_want_p {C : Ctx} {G : AH} {res : Int32} (i0 : Int32) (i1 : Int32) (i2 : Int32) (i3 : Int32) (hf : L_want i0 i1 i2 i3 = some res) : Runs C B3 0 0 0 [vi i0, vi i1, vi i2, vi i3] [] G (Ans (some (.int res)) G) := by
  delta L_want at hf
  refine Runs.iloadN d3_0 rfl <| ?_
  refine ite_el hf (fun hc1 hf => ?_) (fun hc1 hf => ?_)
  · refine Runs.ifN d3_1 (teq hc1).2 <| ?_
    obtain rfl := Option.some.inj hf
    exact Runs.iconst d3_4 ci_m1 <| Runs.retI d3_5 rfl ⟨by decide, by decide⟩ ⟨rfl, rfl⟩
  · refine Runs.ifY (pc' := 6) d3_1 (feq hc1).2 (by decide) <| ?_
    refine Runs.iloadN d3_6 rfl <| ?_
    refine ite_el hf (fun hc2 hf => ?_) (fun hc2 hf => ?_)
    · refine Runs.ifY (pc' := 13) d3_7 (teq hc2).1 (by decide) <| ?_
      refine Runs.iloadN d3_13 rfl <| ?_
      refine ite_el hf (fun hc3 hf => ?_) (fun hc3 hf => ?_)
      · refine Runs.ifY (pc' := 20) d3_14 (teq hc3).1 (by decide) <| ?_
        refine Runs.iloadN d3_20 rfl <| Runs.bipush d3_21 cb_64 <| ?_
        refine ite_el hf (fun hc4 hf => ?_) (fun hc4 hf => ?_)
        · refine Runs.icN d3_23 (teq hc4).2 <| ?_
          obtain rfl := Option.some.inj hf
          exact Runs.bipush d3_26 cb_m4 <| Runs.retI d3_28 rfl ⟨by decide, by decide⟩ ⟨rfl, rfl⟩
        · refine Runs.icY (pc' := 29) d3_23 (feq hc4).2 (by decide) <| ?_
          obtain rfl := Option.some.inj hf
          exact Runs.iloadN d3_29 rfl <| Runs.iconst d3_30 ci_1 <| Runs.iadd d3_31 <| Runs.retI d3_32 rfl ⟨by decide, by decide⟩ ⟨rfl, rfl⟩
      · refine Runs.ifN d3_14 (feq hc3).1 <| ?_
        obtain rfl := Option.some.inj hf
        exact Runs.bipush d3_17 cb_m3 <| Runs.retI d3_19 rfl ⟨by decide, by decide⟩ ⟨rfl, rfl⟩
    · refine Runs.ifN d3_7 (feq hc2).1 <| ?_
      obtain rfl := Option.some.inj hf
      exact Runs.bipush d3_10 cb_m2 <| Runs.retI d3_12 rfl ⟨by decide, by decide⟩ ⟨rfl, rfl⟩
theorem L_want_pay {C : Ctx} {G : AH} {res : Int32} {i0 : Int32} {i1 : Int32} {i2 : Int32} {i3 : Int32} (hf : L_want i0 i1 i2 i3 = some res) : Pays C B3 [.int i0, .int i1, .int i2, .int i3] G (Ans (some (.int res)) G) :=
  Pays.of pnL (Nat.le_of_ble_eq_true rfl) (P := [vi i0, vi i1, vi i2, vi i3]) 0 rfl (L_want_p i0 i1 i2 i3 hf)
def X_validSlot (ob : Rec) (i1 : Int32) : Option (Int32) :=
  if i1 < (0 : Int32) then
    some (0 : Int32)
  else
    if i1 < (gI ob 1) then
      if i1 < (8 : Int32) then
        some (1 : Int32)
      else
        some (0 : Int32)
    else
      some (0 : Int32)
set_option maxRecDepth 65536 in
set_option maxHeartbeats 4000000 in
theorem X_validSlot_p {C : Ctx} {top : Nat} {a : Nat} {H : List (Nat × Nat × Rec)} {ob : Rec} {res : Int32} (i1 : Int32) (hf : X_validSlot ob i1 = some res) : Runs C B7 0 0 0 [vr a, vi i1] [] (top, (a, 17, ob) :: H) (Ans (some (.int res)) (top, (a, 17, ob) :: H)) := by
  delta X_validSlot at hf
  refine Runs.iloadN d7_0 rfl <| ?_
  refine ite_el hf (fun hc1 hf => ?_) (fun hc1 hf => ?_)
  · refine Runs.ifY (pc' := 22) d7_1 (tlt hc1).1 (by decide) <| ?_
    obtain rfl := Option.some.inj hf
    exact Runs.iconst d7_22 ci_0 <| Runs.retZ (y := (0 : Int32)) d7_23 rfl ⟨by decide, by decide⟩ rfl ⟨rfl, rfl⟩
  · refine Runs.ifN d7_1 (flt hc1).1 <| ?_
    refine Runs.iloadN d7_4 rfl <| Runs.aloadN d7_5 rfl <| Runs.getI d7_6 w51 fS_1 <| ?_
    refine ite_el hf (fun hc2 hf => ?_) (fun hc2 hf => ?_)
    · refine Runs.icN d7_9 (tlt hc2).2.1 <| ?_
      refine Runs.iloadN d7_12 rfl <| Runs.bipush d7_13 cb_8 <| ?_
      refine ite_el hf (fun hc3 hf => ?_) (fun hc3 hf => ?_)
      · refine Runs.icN d7_15 (tlt hc3).2.1 <| ?_
        obtain rfl := Option.some.inj hf
        exact Runs.iconst d7_18 ci_1 <| Runs.goto (pc' := 23) d7_19 (by decide) <| Runs.retZ (y := (1 : Int32)) d7_23 rfl ⟨by decide, by decide⟩ rfl ⟨rfl, rfl⟩
      · refine Runs.icY (pc' := 22) d7_15 (flt hc3).2.1 (by decide) <| ?_
        obtain rfl := Option.some.inj hf
        exact Runs.iconst d7_22 ci_0 <| Runs.retZ (y := (0 : Int32)) d7_23 rfl ⟨by decide, by decide⟩ rfl ⟨rfl, rfl⟩
    · refine Runs.icY (pc' := 22) d7_9 (flt hc2).2.1 (by decide) <| ?_
      obtain rfl := Option.some.inj hf
      exact Runs.iconst d7_22 ci_0 <| Runs.retZ (y := (0 : Int32)) d7_23 rfl ⟨by decide, by decide⟩ rfl ⟨rfl, rfl⟩
theorem X_validSlot_pay {C : Ctx} {top : Nat} {a : Nat} {H : List (Nat × Nat × Rec)} {ob : Rec} {res : Int32} {i1 : Int32} (hf : X_validSlot ob i1 = some res) : Pays C B7 [.ref a, .int i1] (top, (a, 17, ob) :: H) (Ans (some (.int res)) (top, (a, 17, ob) :: H)) :=
  Pays.of pnK (Nat.le_of_ble_eq_true rfl) (P := [vr a, vi i1]) 0 rfl (X_validSlot_p i1 hf)
def X_logFull (ob : Rec) : Option (Int32) :=
  if (gI ob 4) < (gI ob 2) then
    if (gI ob 4) < (128 : Int32) then
      some (0 : Int32)
    else
      some (1 : Int32)
  else
    some (1 : Int32)
set_option maxRecDepth 65536 in
set_option maxHeartbeats 4000000 in
theorem X_logFull_p {C : Ctx} {top : Nat} {a : Nat} {H : List (Nat × Nat × Rec)} {ob : Rec} {res : Int32} (hf : X_logFull ob = some res) : Runs C B12 0 0 0 [vr a] [] (top, (a, 17, ob) :: H) (Ans (some (.int res)) (top, (a, 17, ob) :: H)) := by
  delta X_logFull at hf
  refine Runs.aloadN d12_0 rfl <| Runs.getI d12_1 w57 fS_4 <| Runs.aloadN d12_4 rfl <| Runs.getI d12_5 w53 fS_2 <| ?_
  refine ite_el hf (fun hc1 hf => ?_) (fun hc1 hf => ?_)
  · refine Runs.icN d12_8 (tlt hc1).2.1 <| ?_
    refine Runs.aloadN d12_11 rfl <| Runs.getI d12_12 w57 fS_4 <| Runs.sipush d12_15 cs_128 <| ?_
    refine ite_el hf (fun hc2 hf => ?_) (fun hc2 hf => ?_)
    · refine Runs.icY (pc' := 25) d12_18 (tlt hc2).1 (by decide) <| ?_
      obtain rfl := Option.some.inj hf
      exact Runs.iconst d12_25 ci_0 <| Runs.retZ (y := (0 : Int32)) d12_26 rfl ⟨by decide, by decide⟩ rfl ⟨rfl, rfl⟩
    · refine Runs.icN d12_18 (flt hc2).1 <| ?_
      obtain rfl := Option.some.inj hf
      exact Runs.iconst d12_21 ci_1 <| Runs.goto (pc' := 26) d12_22 (by decide) <| Runs.retZ (y := (1 : Int32)) d12_26 rfl ⟨by decide, by decide⟩ rfl ⟨rfl, rfl⟩
  · refine Runs.icY (pc' := 21) d12_8 (flt hc1).2.1 (by decide) <| ?_
    obtain rfl := Option.some.inj hf
    exact Runs.iconst d12_21 ci_1 <| Runs.goto (pc' := 26) d12_22 (by decide) <| Runs.retZ (y := (1 : Int32)) d12_26 rfl ⟨by decide, by decide⟩ rfl ⟨rfl, rfl⟩
theorem X_logFull_pay {C : Ctx} {top : Nat} {a : Nat} {H : List (Nat × Nat × Rec)} {ob : Rec} {res : Int32} (hf : X_logFull ob = some res) : Pays C B12 [.ref a] (top, (a, 17, ob) :: H) (Ans (some (.int res)) (top, (a, 17, ob) :: H)) :=
  Pays.of pnK (Nat.le_of_ble_eq_true rfl) (P := [vr a]) 0 rfl (X_logFull_p hf)
def X_append (ob : Rec) (i1 : Int32) (i2 : Int32) (i3 : Int32) (i4 : Int32) : Option (Int32 × Rec) :=
  chk (129 : Int32) ((gI ob 4) + (1 : Int32)) <|
  chk (129 : Int32) ((gI ob 4) + (1 : Int32)) <|
  chk (129 : Int32) ((gI ob 4) + (1 : Int32)) <|
  chk (129 : Int32) ((gI ob 4) + (1 : Int32)) <|
  chk (129 : Int32) ((gI ob 4) + (1 : Int32)) <|
  some (((gI ob 4) + (1 : Int32)), (sA (sA (sA (sA (sA (sI ob 4 ((gI ob 4) + (1 : Int32))) 0 ((gI ob 4) + (1 : Int32)) i1) 1 ((gI ob 4) + (1 : Int32)) i2) 2 ((gI ob 4) + (1 : Int32)) i3) 3 ((gI ob 4) + (1 : Int32)) i4) 4 ((gI ob 4) + (1 : Int32)) (0 : Int32)))
set_option maxRecDepth 65536 in
set_option maxHeartbeats 4000000 in
theorem X_append_p {C : Ctx} {top : Nat} {a : Nat} {H : List (Nat × Nat × Rec)} {res : Int32 × Rec} (ob : Rec) (i1 : Int32) (i2 : Int32) (i3 : Int32) (i4 : Int32) (hf : X_append ob i1 i2 i3 i4 = some res) : Runs C B13 0 0 0 [vr a, vi i1, vi i2, vi i3, vi i4] [] (top, (a, 17, ob) :: H) (Ans (some (.int res.1)) (top, (a, 17, res.2) :: H)) := by
  delta X_append at hf
  refine Runs.aloadN d13_0 rfl <| Runs.dup d13_1 rfl <| Runs.getI d13_2 w57 fS_4 <| Runs.iconst d13_5 ci_1 <| Runs.iadd d13_6 <| Runs.putI d13_7 w57 fS_4 (Or.inl w58) <| Runs.aloadN d13_10 rfl <| Runs.getA d13_11 fA_0 w10 (by decide) <| Runs.aloadN d13_14 rfl <| Runs.getI d13_15 w57 fS_4 <| Runs.iloadN d13_18 rfl <| ?_
  refine chk_el hf fun hi1 hf => ?_
  refine Runs.iastoreA d13_19 fA_0 (by decide) hi1 <| Runs.aloadN d13_20 rfl <| Runs.getA d13_21 fA_1 w12 (by decide) <| Runs.aloadN d13_24 rfl <| Runs.getI d13_25 w57 fS_4 <| Runs.iloadN d13_28 rfl <| ?_
  refine chk_el hf fun hi2 hf => ?_
  refine Runs.iastoreA d13_29 fA_1 (by decide) hi2 <| Runs.aloadN d13_30 rfl <| Runs.getA d13_31 fA_2 w14 (by decide) <| Runs.aloadN d13_34 rfl <| Runs.getI d13_35 w57 fS_4 <| Runs.iloadN d13_38 rfl <| ?_
  refine chk_el hf fun hi3 hf => ?_
  refine Runs.iastoreA d13_39 fA_2 (by decide) hi3 <| Runs.aloadN d13_40 rfl <| Runs.getA d13_41 fA_3 w16 (by decide) <| Runs.aloadN d13_44 rfl <| Runs.getI d13_45 w57 fS_4 <| Runs.iload d13_48 rfl <| ?_
  refine chk_el hf fun hi4 hf => ?_
  refine Runs.iastoreA d13_50 fA_3 (by decide) hi4 <| Runs.aloadN d13_51 rfl <| Runs.getA d13_52 fA_4 w18 (by decide) <| Runs.aloadN d13_55 rfl <| Runs.getI d13_56 w57 fS_4 <| Runs.iconst d13_59 ci_0 <| ?_
  refine chk_el hf fun hi5 hf => ?_
  obtain rfl := Option.some.inj hf
  exact Runs.iastoreA d13_60 fA_4 (by decide) hi5 <| Runs.aloadN d13_61 rfl <| Runs.getI d13_62 w57 fS_4 <| Runs.retI d13_65 rfl ⟨by decide, by decide⟩ ⟨rfl, rfl⟩
theorem X_append_pay {C : Ctx} {top : Nat} {a : Nat} {H : List (Nat × Nat × Rec)} {res : Int32 × Rec} {ob : Rec} {i1 : Int32} {i2 : Int32} {i3 : Int32} {i4 : Int32} (hf : X_append ob i1 i2 i3 i4 = some res) : Pays C B13 [.ref a, .int i1, .int i2, .int i3, .int i4] (top, (a, 17, ob) :: H) (Ans (some (.int res.1)) (top, (a, 17, res.2) :: H)) :=
  Pays.of pnK (Nat.le_of_ble_eq_true rfl) (P := [vr a, vi i1, vi i2, vi i3, vi i4]) 0 rfl (X_append_p ob i1 i2 i3 i4 hf)
def X_begin (ob : Rec) (i1 : Int32) : Option (Int32 × Rec) :=
  (X_validSlot ob i1).bind fun r1 =>
  if r1 = (0 : Int32) then
    some ((-1 : Int32), ob)
  else
    chk (8 : Int32) i1 <|
    if (gA ob 5 i1) = (0 : Int32) then
      (X_logFull ob).bind fun r6 =>
      if r6 = (0 : Int32) then
        bind2 (X_append ob (1 : Int32) i1 (0 : Int32) (0 : Int32)) fun r9 q10 =>
        chk (8 : Int32) i1 <|
        chk (8 : Int32) i1 <|
        some (r9, (sA (sA q10 5 i1 (1 : Int32)) 6 i1 r9))
      else
        some ((-4 : Int32), ob)
    else
      some ((-2 : Int32), ob)
set_option maxRecDepth 65536 in
set_option maxHeartbeats 4000000 in
theorem X_begin_p {C : Ctx} {top : Nat} {a : Nat} {H : List (Nat × Nat × Rec)} {res : Int32 × Rec} (ob : Rec) (i1 : Int32) (hf : X_begin ob i1 = some res) : Runs C B11 0 0 0 [vr a, vi i1, vn] [] (top, (a, 17, ob) :: H) (Ans (some (.int res.1)) (top, (a, 17, res.2) :: H)) := by
  delta X_begin at hf
  refine Runs.aloadN d11_0 rfl <| Runs.iloadN d11_1 rfl <| ?_
  refine bind_el hf fun r1 hg2 hf => ?_
  refine Runs.callP (N := B7) (W := 0) (as := [.int i1]) (S' := []) d11_2 w86 w87 w88 rfl cw7 ar7 rk11_7_0 (by decide) rfl rfl (X_validSlot_pay hg2) <| ans1 <| ?_
  refine ite_el hf (fun hc3 hf => ?_) (fun hc3 hf => ?_)
  · refine Runs.ifN d11_5 (teq hc3).2 <| ?_
    obtain rfl := Option.some.inj hf
    exact Runs.iconst d11_8 ci_m1 <| Runs.retI d11_9 rfl ⟨by decide, by decide⟩ ⟨rfl, rfl⟩
  · refine Runs.ifY (pc' := 10) d11_5 (feq hc3).2 (by decide) <| ?_
    refine Runs.aloadN d11_10 rfl <| Runs.getA d11_11 fA_5 w21 (by decide) <| Runs.iloadN d11_14 rfl <| ?_
    refine chk_el hf fun hi4 hf => ?_
    refine Runs.baloadA d11_15 fA_5 (by decide) hi4 <| ?_
    refine ite_el hf (fun hc5 hf => ?_) (fun hc5 hf => ?_)
    · refine Runs.ifY (pc' := 22) d11_16 (teq hc5).1 (by decide) <| ?_
      refine Runs.aloadN d11_22 rfl <| ?_
      refine bind_el hf fun r6 hg7 hf => ?_
      refine Runs.callP (N := B12) (W := 0) (as := []) (S' := []) d11_23 w109 w110 w111 rfl cw12 ar12 rk11_12_0 (by decide) rfl rfl (X_logFull_pay hg7) <| ans1 <| ?_
      refine ite_el hf (fun hc8 hf => ?_) (fun hc8 hf => ?_)
      · refine Runs.ifY (pc' := 32) d11_26 (teq hc8).1 (by decide) <| ?_
        refine Runs.aloadN d11_32 rfl <| Runs.iconst d11_33 ci_1 <| Runs.iloadN d11_34 rfl <| Runs.iconst d11_35 ci_0 <| Runs.iconst d11_36 ci_0 <| ?_
        refine bind2_el hf fun r9 q10 hg11 hf => ?_
        refine Runs.callP (N := B13) (W := 0) (as := [.int (1 : Int32), .int i1, .int (0 : Int32), .int (0 : Int32)]) (S' := []) d11_37 w113 w114 w115 rfl cw13 ar13 rk11_13_0 (by decide) rfl rfl (X_append_pay hg11) <| ans1 <| Runs.istoreN (P' := [vr a, vi i1, vi r9]) d11_40 (by decide) rfl <| Runs.aloadN d11_41 rfl <| Runs.getA d11_42 fA_5 w21 (by decide) <| Runs.iloadN d11_45 rfl <| Runs.iconst d11_46 ci_1 <| ?_
        refine chk_el hf fun hi12 hf => ?_
        refine Runs.bastoreA (y := (1 : Int32)) d11_47 fA_5 (by decide) hi12 rfl <| Runs.aloadN d11_48 rfl <| Runs.getA d11_49 fA_6 w23 (by decide) <| Runs.iloadN d11_52 rfl <| Runs.iloadN d11_53 rfl <| ?_
        refine chk_el hf fun hi13 hf => ?_
        obtain rfl := Option.some.inj hf
        exact Runs.iastoreA d11_54 fA_6 (by decide) hi13 <| Runs.iloadN d11_55 rfl <| Runs.retI d11_56 rfl ⟨by decide, by decide⟩ ⟨rfl, rfl⟩
      · refine Runs.ifN d11_26 (feq hc8).1 <| ?_
        obtain rfl := Option.some.inj hf
        exact Runs.bipush d11_29 cb_m4 <| Runs.retI d11_31 rfl ⟨by decide, by decide⟩ ⟨rfl, rfl⟩
    · refine Runs.ifN d11_16 (feq hc5).1 <| ?_
      obtain rfl := Option.some.inj hf
      exact Runs.bipush d11_19 cb_m2 <| Runs.retI d11_21 rfl ⟨by decide, by decide⟩ ⟨rfl, rfl⟩
theorem X_begin_pay {C : Ctx} {top : Nat} {a : Nat} {H : List (Nat × Nat × Rec)} {res : Int32 × Rec} {ob : Rec} {i1 : Int32} (hf : X_begin ob i1 = some res) : Pays C B11 [.ref a, .int i1] (top, (a, 17, ob) :: H) (Ans (some (.int res.1)) (top, (a, 17, res.2) :: H)) :=
  Pays.of pnK (Nat.le_of_ble_eq_true rfl) (P := [vr a, vi i1, vn]) 1 rfl (X_begin_p ob i1 hf)
def X_logRecord (ob : Rec) (i1 : Int32) : Option (Int64) :=
  if i1 < (1 : Int32) then
    some (0 : Int64)
  else
    if (gI ob 4) < i1 then
      some (0 : Int64)
    else
      if i1 < (129 : Int32) then
        chk (129 : Int32) i1 <|
        chk (129 : Int32) i1 <|
        chk (129 : Int32) i1 <|
        chk (129 : Int32) i1 <|
        some (((gA ob 3 i1).toInt64 <<< ((32 : Int32) &&& 0x3f).toInt64) ||| (((gA ob 0 i1) + ((256 : Int32) * (gA ob 1 i1))) + ((65536 : Int32) * (gA ob 2 i1))).toInt64)
      else
        some (0 : Int64)
set_option maxRecDepth 65536 in
set_option maxHeartbeats 4000000 in
theorem X_logRecord_p {C : Ctx} {top : Nat} {a : Nat} {H : List (Nat × Nat × Rec)} {ob : Rec} {res : Int64} (i1 : Int32) (hf : X_logRecord ob i1 = some res) : Runs C B10 0 0 0 [vr a, vi i1, vn, vn, vn, vn] [] (top, (a, 17, ob) :: H) (Ans (some (.long res)) (top, (a, 17, ob) :: H)) := by
  delta X_logRecord at hf
  refine Runs.iloadN d10_0 rfl <| Runs.iconst d10_1 ci_1 <| ?_
  refine ite_el hf (fun hc1 hf => ?_) (fun hc1 hf => ?_)
  · refine Runs.icY (pc' := 20) d10_2 (tlt hc1).1 (by decide) <| ?_
    obtain rfl := Option.some.inj hf
    exact Runs.lconst d10_20 cl_0 <| Runs.retJ d10_21 rfl ⟨by decide, by decide⟩ ⟨rfl, rfl⟩
  · refine Runs.icN d10_2 (flt hc1).1 <| ?_
    refine Runs.iloadN d10_5 rfl <| Runs.aloadN d10_6 rfl <| Runs.getI d10_7 w57 fS_4 <| ?_
    refine ite_el hf (fun hc2 hf => ?_) (fun hc2 hf => ?_)
    · refine Runs.icY (pc' := 20) d10_10 (tlt hc2).2.2.1 (by decide) <| ?_
      obtain rfl := Option.some.inj hf
      exact Runs.lconst d10_20 cl_0 <| Runs.retJ d10_21 rfl ⟨by decide, by decide⟩ ⟨rfl, rfl⟩
    · refine Runs.icN d10_10 (flt hc2).2.2.1 <| ?_
      refine Runs.iloadN d10_13 rfl <| Runs.sipush d10_14 cs_129 <| ?_
      refine ite_el hf (fun hc3 hf => ?_) (fun hc3 hf => ?_)
      · refine Runs.icY (pc' := 22) d10_17 (tlt hc3).1 (by decide) <| ?_
        refine Runs.aloadN d10_22 rfl <| Runs.getA d10_23 fA_0 w10 (by decide) <| Runs.iloadN d10_26 rfl <| ?_
        refine chk_el hf fun hi4 hf => ?_
        refine Runs.ialoadA d10_27 fA_0 (by decide) hi4 <| Runs.sipush d10_28 cs_256 <| Runs.aloadN d10_31 rfl <| Runs.getA d10_32 fA_1 w12 (by decide) <| Runs.iloadN d10_35 rfl <| ?_
        refine chk_el hf fun hi5 hf => ?_
        refine Runs.ialoadA d10_36 fA_1 (by decide) hi5 <| Runs.imul d10_37 <| Runs.iadd d10_38 <| Runs.ldc d10_39 w117 <| Runs.aloadN d10_41 rfl <| Runs.getA d10_42 fA_2 w14 (by decide) <| Runs.iloadN d10_45 rfl <| ?_
        refine chk_el hf fun hi6 hf => ?_
        refine Runs.ialoadA d10_46 fA_2 (by decide) hi6 <| Runs.imul d10_47 <| Runs.iadd d10_48 <| Runs.i2l d10_49 <| Runs.lstoreN (P' := [vr a, vi i1, vl (((gA ob 0 i1) + ((256 : Int32) * (gA ob 1 i1))) + ((65536 : Int32) * (gA ob 2 i1))).toInt64, v2, vn, vn]) d10_50 (by decide) rfl <| Runs.aloadN d10_51 rfl <| Runs.getA d10_52 fA_3 w16 (by decide) <| Runs.iloadN d10_55 rfl <| ?_
        refine chk_el hf fun hi7 hf => ?_
        obtain rfl := Option.some.inj hf
        exact Runs.ialoadA d10_56 fA_3 (by decide) hi7 <| Runs.i2l d10_57 <| Runs.bipush d10_58 cb_32 <| Runs.lshl d10_60 <| Runs.lstore (P' := [vr a, vi i1, vl (((gA ob 0 i1) + ((256 : Int32) * (gA ob 1 i1))) + ((65536 : Int32) * (gA ob 2 i1))).toInt64, v2, vl ((gA ob 3 i1).toInt64 <<< ((32 : Int32) &&& 0x3f).toInt64), v2]) d10_61 (by decide) rfl <| Runs.lload d10_63 rfl <| Runs.lloadN d10_65 rfl <| Runs.lor d10_66 <| Runs.retJ d10_67 rfl ⟨by decide, by decide⟩ ⟨rfl, rfl⟩
      · refine Runs.icN d10_17 (flt hc3).1 <| ?_
        obtain rfl := Option.some.inj hf
        exact Runs.lconst d10_20 cl_0 <| Runs.retJ d10_21 rfl ⟨by decide, by decide⟩ ⟨rfl, rfl⟩
theorem X_logRecord_pay {C : Ctx} {top : Nat} {a : Nat} {H : List (Nat × Nat × Rec)} {ob : Rec} {res : Int64} {i1 : Int32} (hf : X_logRecord ob i1 = some res) : Pays C B10 [.ref a, .int i1] (top, (a, 17, ob) :: H) (Ans (some (.long res)) (top, (a, 17, ob) :: H)) :=
  Pays.of pnK (Nat.le_of_ble_eq_true rfl) (P := [vr a, vi i1, vn, vn, vn, vn]) 4 rfl (X_logRecord_p i1 hf)
def L_rec (i0 : Int32) (i1 : Int32) (i2 : Int32) (i3 : Int32) : Option (Int64) :=
  some ((i3.toInt64 <<< ((32 : Int32) &&& 0x3f).toInt64) ||| ((i0 + ((256 : Int32) * i1)) + ((65536 : Int32) * i2)).toInt64)
set_option maxRecDepth 65536 in
set_option maxHeartbeats 4000000 in
theorem L_rec_p {C : Ctx} {G : AH} {res : Int64} (i0 : Int32) (i1 : Int32) (i2 : Int32) (i3 : Int32) (hf : L_rec i0 i1 i2 i3 = some res) : Runs C B14 0 0 0 [vi i0, vi i1, vi i2, vi i3] [] G (Ans (some (.long res)) G) := by
  delta L_rec at hf
  refine Runs.iloadN d14_0 rfl <| Runs.i2l d14_1 <| Runs.bipush d14_2 cb_32 <| Runs.lshl d14_4 <| Runs.iloadN d14_5 rfl <| Runs.sipush d14_6 cs_256 <| Runs.iloadN d14_9 rfl <| Runs.imul d14_10 <| Runs.iadd d14_11 <| Runs.ldc d14_12 w121 <| Runs.iloadN d14_14 rfl <| Runs.imul d14_15 <| ?_
  obtain rfl := Option.some.inj hf
  exact Runs.iadd d14_16 <| Runs.i2l d14_17 <| Runs.lor d14_18 <| Runs.retJ d14_19 rfl ⟨by decide, by decide⟩ ⟨rfl, rfl⟩
theorem L_rec_pay {C : Ctx} {G : AH} {res : Int64} {i0 : Int32} {i1 : Int32} {i2 : Int32} {i3 : Int32} (hf : L_rec i0 i1 i2 i3 = some res) : Pays C B14 [.int i0, .int i1, .int i2, .int i3] G (Ans (some (.long res)) G) :=
  Pays.of pnL (Nat.le_of_ble_eq_true rfl) (P := [vi i0, vi i1, vi i2, vi i3]) 0 rfl (L_rec_p i0 i1 i2 i3 hf)
def X_checkOpenSlot (ob : Rec) (i1 : Int32) : Option (Int32) :=
  (X_validSlot ob i1).bind fun r1 =>
  if r1 = (0 : Int32) then
    some (-1 : Int32)
  else
    chk (8 : Int32) i1 <|
    if (gA ob 5 i1) = (0 : Int32) then
      some (-2 : Int32)
    else
      some (0 : Int32)
set_option maxRecDepth 65536 in
set_option maxHeartbeats 4000000 in
theorem X_checkOpenSlot_p {C : Ctx} {top : Nat} {a : Nat} {H : List (Nat × Nat × Rec)} {ob : Rec} {res : Int32} (i1 : Int32) (hf : X_checkOpenSlot ob i1 = some res) : Runs C B6 0 0 0 [vr a, vi i1] [] (top, (a, 17, ob) :: H) (Ans (some (.int res)) (top, (a, 17, ob) :: H)) := by
  delta X_checkOpenSlot at hf
  refine Runs.aloadN d6_0 rfl <| Runs.iloadN d6_1 rfl <| ?_
  refine bind_el hf fun r1 hg2 hf => ?_
  refine Runs.callP (N := B7) (W := 0) (as := [.int i1]) (S' := []) d6_2 w86 w87 w88 rfl cw7 ar7 rk6_7_0 (by decide) rfl rfl (X_validSlot_pay hg2) <| ans1 <| ?_
  refine ite_el hf (fun hc3 hf => ?_) (fun hc3 hf => ?_)
  · refine Runs.ifN d6_5 (teq hc3).2 <| ?_
    obtain rfl := Option.some.inj hf
    exact Runs.iconst d6_8 ci_m1 <| Runs.retI d6_9 rfl ⟨by decide, by decide⟩ ⟨rfl, rfl⟩
  · refine Runs.ifY (pc' := 10) d6_5 (feq hc3).2 (by decide) <| ?_
    refine Runs.aloadN d6_10 rfl <| Runs.getA d6_11 fA_5 w21 (by decide) <| Runs.iloadN d6_14 rfl <| ?_
    refine chk_el hf fun hi4 hf => ?_
    refine Runs.baloadA d6_15 fA_5 (by decide) hi4 <| ?_
    refine ite_el hf (fun hc5 hf => ?_) (fun hc5 hf => ?_)
    · refine Runs.ifN d6_16 (teq hc5).2 <| ?_
      obtain rfl := Option.some.inj hf
      exact Runs.bipush d6_19 cb_m2 <| Runs.retI d6_21 rfl ⟨by decide, by decide⟩ ⟨rfl, rfl⟩
    · refine Runs.ifY (pc' := 22) d6_16 (feq hc5).2 (by decide) <| ?_
      obtain rfl := Option.some.inj hf
      exact Runs.iconst d6_22 ci_0 <| Runs.retI d6_23 rfl ⟨by decide, by decide⟩ ⟨rfl, rfl⟩
theorem X_checkOpenSlot_pay {C : Ctx} {top : Nat} {a : Nat} {H : List (Nat × Nat × Rec)} {ob : Rec} {res : Int32} {i1 : Int32} (hf : X_checkOpenSlot ob i1 = some res) : Pays C B6 [.ref a, .int i1] (top, (a, 17, ob) :: H) (Ans (some (.int res)) (top, (a, 17, ob) :: H)) :=
  Pays.of pnK (Nat.le_of_ble_eq_true rfl) (P := [vr a, vi i1]) 0 rfl (X_checkOpenSlot_p i1 hf)
def X_validKey (ob : Rec) (i1 : Int32) : Option (Int32) :=
  if i1 < (0 : Int32) then
    some (0 : Int32)
  else
    if i1 < (gI ob 0) then
      if i1 < (32 : Int32) then
        some (1 : Int32)
      else
        some (0 : Int32)
    else
      some (0 : Int32)
set_option maxRecDepth 65536 in
set_option maxHeartbeats 4000000 in
theorem X_validKey_p {C : Ctx} {top : Nat} {a : Nat} {H : List (Nat × Nat × Rec)} {ob : Rec} {res : Int32} (i1 : Int32) (hf : X_validKey ob i1 = some res) : Runs C B15 0 0 0 [vr a, vi i1] [] (top, (a, 17, ob) :: H) (Ans (some (.int res)) (top, (a, 17, ob) :: H)) := by
  delta X_validKey at hf
  refine Runs.iloadN d15_0 rfl <| ?_
  refine ite_el hf (fun hc1 hf => ?_) (fun hc1 hf => ?_)
  · refine Runs.ifY (pc' := 22) d15_1 (tlt hc1).1 (by decide) <| ?_
    obtain rfl := Option.some.inj hf
    exact Runs.iconst d15_22 ci_0 <| Runs.retZ (y := (0 : Int32)) d15_23 rfl ⟨by decide, by decide⟩ rfl ⟨rfl, rfl⟩
  · refine Runs.ifN d15_1 (flt hc1).1 <| ?_
    refine Runs.iloadN d15_4 rfl <| Runs.aloadN d15_5 rfl <| Runs.getI d15_6 w49 fS_0 <| ?_
    refine ite_el hf (fun hc2 hf => ?_) (fun hc2 hf => ?_)
    · refine Runs.icN d15_9 (tlt hc2).2.1 <| ?_
      refine Runs.iloadN d15_12 rfl <| Runs.bipush d15_13 cb_32 <| ?_
      refine ite_el hf (fun hc3 hf => ?_) (fun hc3 hf => ?_)
      · refine Runs.icN d15_15 (tlt hc3).2.1 <| ?_
        obtain rfl := Option.some.inj hf
        exact Runs.iconst d15_18 ci_1 <| Runs.goto (pc' := 23) d15_19 (by decide) <| Runs.retZ (y := (1 : Int32)) d15_23 rfl ⟨by decide, by decide⟩ rfl ⟨rfl, rfl⟩
      · refine Runs.icY (pc' := 22) d15_15 (flt hc3).2.1 (by decide) <| ?_
        obtain rfl := Option.some.inj hf
        exact Runs.iconst d15_22 ci_0 <| Runs.retZ (y := (0 : Int32)) d15_23 rfl ⟨by decide, by decide⟩ rfl ⟨rfl, rfl⟩
    · refine Runs.icY (pc' := 22) d15_9 (flt hc2).2.1 (by decide) <| ?_
      obtain rfl := Option.some.inj hf
      exact Runs.iconst d15_22 ci_0 <| Runs.retZ (y := (0 : Int32)) d15_23 rfl ⟨by decide, by decide⟩ rfl ⟨rfl, rfl⟩
theorem X_validKey_pay {C : Ctx} {top : Nat} {a : Nat} {H : List (Nat × Nat × Rec)} {ob : Rec} {res : Int32} {i1 : Int32} (hf : X_validKey ob i1 = some res) : Pays C B15 [.ref a, .int i1] (top, (a, 17, ob) :: H) (Ans (some (.int res)) (top, (a, 17, ob) :: H)) :=
  Pays.of pnK (Nat.le_of_ble_eq_true rfl) (P := [vr a, vi i1]) 0 rfl (X_validKey_p i1 hf)
def X_write (ob : Rec) (i1 : Int32) (i2 : Int32) (i3 : Int32) (i4 : Int32) : Option (Int32 × Rec) :=
  (X_checkOpenSlot ob i2).bind fun r1 =>
  if r1 = (0 : Int32) then
    (X_validKey ob i3).bind fun r4 =>
    if r4 = (0 : Int32) then
      some ((-3 : Int32), ob)
    else
      (X_logFull ob).bind fun r7 =>
      if r7 = (0 : Int32) then
        bind2 (X_append ob i1 i2 i3 i4) fun r10 q11 =>
        some (r10, q11)
      else
        some ((-4 : Int32), ob)
  else
    some (r1, ob)
set_option maxRecDepth 65536 in
set_option maxHeartbeats 4000000 in
theorem X_write_p {C : Ctx} {top : Nat} {a : Nat} {H : List (Nat × Nat × Rec)} {res : Int32 × Rec} (ob : Rec) (i1 : Int32) (i2 : Int32) (i3 : Int32) (i4 : Int32) (hf : X_write ob i1 i2 i3 i4 = some res) : Runs C B5 0 0 0 [vr a, vi i1, vi i2, vi i3, vi i4, vn] [] (top, (a, 17, ob) :: H) (Ans (some (.int res.1)) (top, (a, 17, res.2) :: H)) := by
  delta X_write at hf
  refine Runs.aloadN d5_0 rfl <| Runs.iloadN d5_1 rfl <| ?_
  refine bind_el hf fun r1 hg2 hf => ?_
  refine Runs.callP (N := B6) (W := 0) (as := [.int i2]) (S' := []) d5_2 w82 w83 w84 rfl cw6 ar6 rk5_6_0 (by decide) rfl rfl (X_checkOpenSlot_pay hg2) <| ans1 <| Runs.istore (P' := [vr a, vi i1, vi i2, vi i3, vi i4, vi r1]) d5_5 (by decide) rfl <| Runs.iload d5_7 rfl <| ?_
  refine ite_el hf (fun hc3 hf => ?_) (fun hc3 hf => ?_)
  · refine Runs.ifY (pc' := 15) d5_9 (teq hc3).1 (by decide) <| ?_
    refine Runs.aloadN d5_15 rfl <| Runs.iloadN d5_16 rfl <| ?_
    refine bind_el hf fun r4 hg5 hf => ?_
    refine Runs.callP (N := B15) (W := 0) (as := [.int i3]) (S' := []) d5_17 w122 w123 w124 rfl cw15 ar15 rk5_15_0 (by decide) rfl rfl (X_validKey_pay hg5) <| ans1 <| ?_
    refine ite_el hf (fun hc6 hf => ?_) (fun hc6 hf => ?_)
    · refine Runs.ifN d5_20 (teq hc6).2 <| ?_
      obtain rfl := Option.some.inj hf
      exact Runs.bipush d5_23 cb_m3 <| Runs.retI d5_25 rfl ⟨by decide, by decide⟩ ⟨rfl, rfl⟩
    · refine Runs.ifY (pc' := 26) d5_20 (feq hc6).2 (by decide) <| ?_
      refine Runs.aloadN d5_26 rfl <| ?_
      refine bind_el hf fun r7 hg8 hf => ?_
      refine Runs.callP (N := B12) (W := 0) (as := []) (S' := []) d5_27 w109 w110 w111 rfl cw12 ar12 rk5_12_0 (by decide) rfl rfl (X_logFull_pay hg8) <| ans1 <| ?_
      refine ite_el hf (fun hc9 hf => ?_) (fun hc9 hf => ?_)
      · refine Runs.ifY (pc' := 36) d5_30 (teq hc9).1 (by decide) <| ?_
        refine Runs.aloadN d5_36 rfl <| Runs.iloadN d5_37 rfl <| Runs.iloadN d5_38 rfl <| Runs.iloadN d5_39 rfl <| Runs.iload d5_40 rfl <| ?_
        refine bind2_el hf fun r10 q11 hg12 hf => ?_
        obtain rfl := Option.some.inj hf
        exact Runs.callP (N := B13) (W := 0) (as := [.int i1, .int i2, .int i3, .int i4]) (S' := []) d5_42 w113 w114 w115 rfl cw13 ar13 rk5_13_0 (by decide) rfl rfl (X_append_pay hg12) <| ans1 <| Runs.retI d5_45 rfl ⟨by decide, by decide⟩ ⟨rfl, rfl⟩
      · refine Runs.ifN d5_30 (feq hc9).1 <| ?_
        obtain rfl := Option.some.inj hf
        exact Runs.bipush d5_33 cb_m4 <| Runs.retI d5_35 rfl ⟨by decide, by decide⟩ ⟨rfl, rfl⟩
  · refine Runs.ifN d5_9 (feq hc3).1 <| ?_
    obtain rfl := Option.some.inj hf
    exact Runs.iload d5_12 rfl <| Runs.retI d5_14 rfl ⟨by decide, by decide⟩ ⟨rfl, rfl⟩
theorem X_write_pay {C : Ctx} {top : Nat} {a : Nat} {H : List (Nat × Nat × Rec)} {res : Int32 × Rec} {ob : Rec} {i1 : Int32} {i2 : Int32} {i3 : Int32} {i4 : Int32} (hf : X_write ob i1 i2 i3 i4 = some res) : Pays C B5 [.ref a, .int i1, .int i2, .int i3, .int i4] (top, (a, 17, ob) :: H) (Ans (some (.int res.1)) (top, (a, 17, res.2) :: H)) :=
  Pays.of pnK (Nat.le_of_ble_eq_true rfl) (P := [vr a, vi i1, vi i2, vi i3, vi i4, vn]) 1 rfl (X_write_p ob i1 i2 i3 i4 hf)
def X_del (ob : Rec) (i1 : Int32) (i2 : Int32) : Option (Int32 × Rec) :=
  bind2 (X_write ob (3 : Int32) i1 i2 (0 : Int32)) fun r1 q2 =>
  some (r1, q2)
set_option maxRecDepth 65536 in
set_option maxHeartbeats 4000000 in
theorem X_del_p {C : Ctx} {top : Nat} {a : Nat} {H : List (Nat × Nat × Rec)} {res : Int32 × Rec} (ob : Rec) (i1 : Int32) (i2 : Int32) (hf : X_del ob i1 i2 = some res) : Runs C B23 0 0 0 [vr a, vi i1, vi i2] [] (top, (a, 17, ob) :: H) (Ans (some (.int res.1)) (top, (a, 17, res.2) :: H)) := by
  delta X_del at hf
  refine Runs.aloadN d23_0 rfl <| Runs.iconst d23_1 ci_3 <| Runs.iloadN d23_2 rfl <| Runs.iloadN d23_3 rfl <| Runs.iconst d23_4 ci_0 <| ?_
  refine bind2_el hf fun r1 q2 hg3 hf => ?_
  obtain rfl := Option.some.inj hf
  exact Runs.callP (N := B5) (W := 0) (as := [.int (3 : Int32), .int i1, .int i2, .int (0 : Int32)]) (S' := []) d23_5 w78 w79 w80 rfl cw5 ar5 rk23_5_0 (by decide) rfl rfl (X_write_pay hg3) <| ans1 <| Runs.retI d23_8 rfl ⟨by decide, by decide⟩ ⟨rfl, rfl⟩
theorem X_del_pay {C : Ctx} {top : Nat} {a : Nat} {H : List (Nat × Nat × Rec)} {res : Int32 × Rec} {ob : Rec} {i1 : Int32} {i2 : Int32} (hf : X_del ob i1 i2 = some res) : Pays C B23 [.ref a, .int i1, .int i2] (top, (a, 17, ob) :: H) (Ans (some (.int res.1)) (top, (a, 17, res.2) :: H)) :=
  Pays.of pnK (Nat.le_of_ble_eq_true rfl) (P := [vr a, vi i1, vi i2]) 0 rfl (X_del_p ob i1 i2 hf)
def X_put (ob : Rec) (i1 : Int32) (i2 : Int32) (i3 : Int32) : Option (Int32 × Rec) :=
  bind2 (X_write ob (2 : Int32) i1 i2 i3) fun r1 q2 =>
  some (r1, q2)
set_option maxRecDepth 65536 in
set_option maxHeartbeats 4000000 in
theorem X_put_p {C : Ctx} {top : Nat} {a : Nat} {H : List (Nat × Nat × Rec)} {res : Int32 × Rec} (ob : Rec) (i1 : Int32) (i2 : Int32) (i3 : Int32) (hf : X_put ob i1 i2 i3 = some res) : Runs C B4 0 0 0 [vr a, vi i1, vi i2, vi i3] [] (top, (a, 17, ob) :: H) (Ans (some (.int res.1)) (top, (a, 17, res.2) :: H)) := by
  delta X_put at hf
  refine Runs.aloadN d4_0 rfl <| Runs.iconst d4_1 ci_2 <| Runs.iloadN d4_2 rfl <| Runs.iloadN d4_3 rfl <| Runs.iloadN d4_4 rfl <| ?_
  refine bind2_el hf fun r1 q2 hg3 hf => ?_
  obtain rfl := Option.some.inj hf
  exact Runs.callP (N := B5) (W := 0) (as := [.int (2 : Int32), .int i1, .int i2, .int i3]) (S' := []) d4_5 w78 w79 w80 rfl cw5 ar5 rk4_5_0 (by decide) rfl rfl (X_write_pay hg3) <| ans1 <| Runs.retI d4_8 rfl ⟨by decide, by decide⟩ ⟨rfl, rfl⟩
theorem X_put_pay {C : Ctx} {top : Nat} {a : Nat} {H : List (Nat × Nat × Rec)} {res : Int32 × Rec} {ob : Rec} {i1 : Int32} {i2 : Int32} {i3 : Int32} (hf : X_put ob i1 i2 i3 = some res) : Pays C B4 [.ref a, .int i1, .int i2, .int i3] (top, (a, 17, ob) :: H) (Ans (some (.int res.1)) (top, (a, 17, res.2) :: H)) :=
  Pays.of pnK (Nat.le_of_ble_eq_true rfl) (P := [vr a, vi i1, vi i2, vi i3]) 0 rfl (X_put_p ob i1 i2 i3 hf)
def X_abort (ob : Rec) (i1 : Int32) : Option (Int32 × Rec) :=
  (X_checkOpenSlot ob i1).bind fun r1 =>
  if r1 = (0 : Int32) then
    (X_logFull ob).bind fun r4 =>
    if r4 = (0 : Int32) then
      bind2 (X_append ob (5 : Int32) i1 (0 : Int32) (0 : Int32)) fun r7 q8 =>
      chk (8 : Int32) i1 <|
      some (r7, (sA q8 5 i1 (0 : Int32)))
    else
      some ((-4 : Int32), ob)
  else
    some (r1, ob)
set_option maxRecDepth 65536 in
set_option maxHeartbeats 4000000 in
theorem X_abort_p {C : Ctx} {top : Nat} {a : Nat} {H : List (Nat × Nat × Rec)} {res : Int32 × Rec} (ob : Rec) (i1 : Int32) (hf : X_abort ob i1 = some res) : Runs C B21 0 0 0 [vr a, vi i1, vn, vn] [] (top, (a, 17, ob) :: H) (Ans (some (.int res.1)) (top, (a, 17, res.2) :: H)) := by
  delta X_abort at hf
  refine Runs.aloadN d21_0 rfl <| Runs.iloadN d21_1 rfl <| ?_
  refine bind_el hf fun r1 hg2 hf => ?_
  refine Runs.callP (N := B6) (W := 0) (as := [.int i1]) (S' := []) d21_2 w82 w83 w84 rfl cw6 ar6 rk21_6_0 (by decide) rfl rfl (X_checkOpenSlot_pay hg2) <| ans1 <| Runs.istoreN (P' := [vr a, vi i1, vi r1, vn]) d21_5 (by decide) rfl <| Runs.iloadN d21_6 rfl <| ?_
  refine ite_el hf (fun hc3 hf => ?_) (fun hc3 hf => ?_)
  · refine Runs.ifY (pc' := 12) d21_7 (teq hc3).1 (by decide) <| ?_
    refine Runs.aloadN d21_12 rfl <| ?_
    refine bind_el hf fun r4 hg5 hf => ?_
    refine Runs.callP (N := B12) (W := 0) (as := []) (S' := []) d21_13 w109 w110 w111 rfl cw12 ar12 rk21_12_0 (by decide) rfl rfl (X_logFull_pay hg5) <| ans1 <| ?_
    refine ite_el hf (fun hc6 hf => ?_) (fun hc6 hf => ?_)
    · refine Runs.ifY (pc' := 22) d21_16 (teq hc6).1 (by decide) <| ?_
      refine Runs.aloadN d21_22 rfl <| Runs.iconst d21_23 ci_5 <| Runs.iloadN d21_24 rfl <| Runs.iconst d21_25 ci_0 <| Runs.iconst d21_26 ci_0 <| ?_
      refine bind2_el hf fun r7 q8 hg9 hf => ?_
      refine Runs.callP (N := B13) (W := 0) (as := [.int (5 : Int32), .int i1, .int (0 : Int32), .int (0 : Int32)]) (S' := []) d21_27 w113 w114 w115 rfl cw13 ar13 rk21_13_0 (by decide) rfl rfl (X_append_pay hg9) <| ans1 <| Runs.istoreN (P' := [vr a, vi i1, vi r1, vi r7]) d21_30 (by decide) rfl <| Runs.aloadN d21_31 rfl <| Runs.getA d21_32 fA_5 w21 (by decide) <| Runs.iloadN d21_35 rfl <| Runs.iconst d21_36 ci_0 <| ?_
      refine chk_el hf fun hi10 hf => ?_
      obtain rfl := Option.some.inj hf
      exact Runs.bastoreA (y := (0 : Int32)) d21_37 fA_5 (by decide) hi10 rfl <| Runs.iloadN d21_38 rfl <| Runs.retI d21_39 rfl ⟨by decide, by decide⟩ ⟨rfl, rfl⟩
    · refine Runs.ifN d21_16 (feq hc6).1 <| ?_
      obtain rfl := Option.some.inj hf
      exact Runs.bipush d21_19 cb_m4 <| Runs.retI d21_21 rfl ⟨by decide, by decide⟩ ⟨rfl, rfl⟩
  · refine Runs.ifN d21_7 (feq hc3).1 <| ?_
    obtain rfl := Option.some.inj hf
    exact Runs.iloadN d21_10 rfl <| Runs.retI d21_11 rfl ⟨by decide, by decide⟩ ⟨rfl, rfl⟩
theorem X_abort_pay {C : Ctx} {top : Nat} {a : Nat} {H : List (Nat × Nat × Rec)} {res : Int32 × Rec} {ob : Rec} {i1 : Int32} (hf : X_abort ob i1 = some res) : Pays C B21 [.ref a, .int i1] (top, (a, 17, ob) :: H) (Ans (some (.int res.1)) (top, (a, 17, res.2) :: H)) :=
  Pays.of pnK (Nat.le_of_ble_eq_true rfl) (P := [vr a, vi i1, vn, vn]) 2 rfl (X_abort_p ob i1 hf)
def X_applyToPublisher_w18 (NF : Nat) (k18 : Rec → Int32 → Int32 → Int32 → Option (Rec)) (ob : Rec) (i1 : Int32) (i3 : Int32) (i5 : Int32) : Option (Rec) :=
  if i5 < i3 then
    if i5 < (129 : Int32) then
      chk (129 : Int32) i5 <|
      if (gA ob 1 i5) = i1 then
        chk (129 : Int32) i5 <|
        if (gA ob 2 i5) < (0 : Int32) then
          k18 ob i1 i3 (i5 + (1 : Int32))
        else
          if (gA ob 2 i5) < (32 : Int32) then
            chk (129 : Int32) i5 <|
            if (gA ob 0 i5) = (2 : Int32) then
              chk (32 : Int32) (gA ob 2 i5) <|
              chk (129 : Int32) i5 <|
              chk (32 : Int32) (gA ob 2 i5) <|
              k18 (sA (sA ob 7 (gA ob 2 i5) (1 : Int32)) 8 (gA ob 2 i5) (gA ob 3 i5)) i1 i3 (i5 + (1 : Int32))
            else
              chk (129 : Int32) i5 <|
              if (gA ob 0 i5) = (3 : Int32) then
                chk (32 : Int32) (gA ob 2 i5) <|
                k18 (sA ob 7 (gA ob 2 i5) (0 : Int32)) i1 i3 (i5 + (1 : Int32))
              else
                k18 ob i1 i3 (i5 + (1 : Int32))
          else
            k18 ob i1 i3 (i5 + (1 : Int32))
      else
        k18 ob i1 i3 (i5 + (1 : Int32))
    else
      some ob
  else
    some ob
def X_applyToPublisher_l18 (NF : Nat) : Nat → Rec → Int32 → Int32 → Int32 → Option (Rec)
  | 0, _, _, _, _ => none
  | n + 1, ob, i1, i3, i5 => X_applyToPublisher_w18 NF (X_applyToPublisher_l18 NF n) ob i1 i3 i5
set_option maxRecDepth 65536 in
set_option maxHeartbeats 4000000 in
theorem X_applyToPublisher_w18_p {C : Ctx} {top : Nat} {a : Nat} {H : List (Nat × Nat × Rec)} {res : Rec} {NF : Nat} (k18 : Rec → Int32 → Int32 → Int32 → Option (Rec)) (hk18 : ∀ (ob : Rec) (i1 : Int32) (i3 : Int32) (i5 : Int32), k18 ob i1 i3 i5 = some res → Runs C B27 0 0 18 [vr a, vi i1, vn, vi i3, vn, vi i5, vn] [] (top, (a, 17, ob) :: H) (Ans none (top, (a, 17, res) :: H))) (ob : Rec) (i1 : Int32) (i3 : Int32) (i5 : Int32) (hf : X_applyToPublisher_w18 NF k18 ob i1 i3 i5 = some res) : Runs C B27 0 0 18 [vr a, vi i1, vn, vi i3, vn, vi i5, vn] [] (top, (a, 17, ob) :: H) (Ans none (top, (a, 17, res) :: H)) := by
  delta X_applyToPublisher_w18 at hf
  refine Runs.iload d27_18 rfl <| Runs.iloadN d27_20 rfl <| ?_
  refine ite_el hf (fun hc1 hf => ?_) (fun hc1 hf => ?_)
  · refine Runs.icN d27_21 (tlt hc1).2.1 <| ?_
    refine Runs.iload d27_24 rfl <| Runs.sipush d27_26 cs_129 <| ?_
    refine ite_el hf (fun hc2 hf => ?_) (fun hc2 hf => ?_)
    · refine Runs.icN d27_29 (tlt hc2).2.1 <| ?_
      refine Runs.aloadN d27_32 rfl <| Runs.getA d27_33 fA_1 w12 (by decide) <| Runs.iload d27_36 rfl <| ?_
      refine chk_el hf fun hi3 hf => ?_
      refine Runs.ialoadA d27_38 fA_1 (by decide) hi3 <| Runs.iloadN d27_39 rfl <| ?_
      refine ite_el hf (fun hc4 hf => ?_) (fun hc4 hf => ?_)
      · refine Runs.icY (pc' := 46) d27_40 (teq hc4).1 (by decide) <| ?_
        refine Runs.aloadN d27_46 rfl <| Runs.getA d27_47 fA_2 w14 (by decide) <| Runs.iload d27_50 rfl <| ?_
        refine chk_el hf fun hi5 hf => ?_
        refine Runs.ialoadA d27_52 fA_2 (by decide) hi5 <| Runs.istore (P' := [vr a, vi i1, vn, vi i3, vn, vi i5, vi (gA ob 2 i5)]) d27_53 (by decide) rfl <| Runs.iload d27_55 rfl <| ?_
        refine ite_el hf (fun hc6 hf => ?_) (fun hc6 hf => ?_)
        · refine Runs.ifY (pc' := 125) d27_57 (tlt hc6).1 (by decide) <| ?_
          exact Runs.iinc (P' := [vr a, vi i1, vn, vi i3, vn, vi (i5 + (1 : Int32)), vi (gA ob 2 i5)]) d27_125 ci_1 rfl (by decide) rfl <| Runs.goto (pc' := 18) d27_128 (by decide) <| Runs.forget [true, true, false, true, false, true, false] rfl <| hk18 ob i1 i3 (i5 + (1 : Int32)) hf
        · refine Runs.ifN d27_57 (flt hc6).1 <| ?_
          refine Runs.iload d27_60 rfl <| Runs.bipush d27_62 cb_32 <| ?_
          refine ite_el hf (fun hc7 hf => ?_) (fun hc7 hf => ?_)
          · refine Runs.icY (pc' := 70) d27_64 (tlt hc7).1 (by decide) <| ?_
            refine Runs.aloadN d27_70 rfl <| Runs.getA d27_71 fA_0 w10 (by decide) <| Runs.iload d27_74 rfl <| ?_
            refine chk_el hf fun hi8 hf => ?_
            refine Runs.ialoadA d27_76 fA_0 (by decide) hi8 <| Runs.iconst d27_77 ci_2 <| ?_
            refine ite_el hf (fun hc9 hf => ?_) (fun hc9 hf => ?_)
            · refine Runs.icN d27_78 (teq hc9).2 <| ?_
              refine Runs.aloadN d27_81 rfl <| Runs.getA d27_82 fA_7 w25 (by decide) <| Runs.iload d27_85 rfl <| Runs.iconst d27_87 ci_1 <| ?_
              refine chk_el hf fun hi10 hf => ?_
              refine Runs.bastoreA (y := (1 : Int32)) d27_88 fA_7 (by decide) hi10 rfl <| Runs.aloadN d27_89 rfl <| Runs.getA d27_90 fA_8 w27 (by decide) <| Runs.iload d27_93 rfl <| Runs.aloadN d27_95 rfl <| Runs.getA d27_96 fA_3 w16 (by decide) <| Runs.iload d27_99 rfl <| ?_
              refine chk_el hf fun hi11 hf => ?_
              refine Runs.ialoadA d27_101 fA_3 (by decide) hi11 <| ?_
              refine chk_el hf fun hi12 hf => ?_
              exact Runs.iastoreA d27_102 fA_8 (by decide) hi12 <| Runs.goto (pc' := 125) d27_103 (by decide) <| Runs.iinc (P' := [vr a, vi i1, vn, vi i3, vn, vi (i5 + (1 : Int32)), vi (gA ob 2 i5)]) d27_125 ci_1 rfl (by decide) rfl <| Runs.goto (pc' := 18) d27_128 (by decide) <| Runs.forget [true, true, false, true, false, true, false] rfl <| hk18 (sA (sA ob 7 (gA ob 2 i5) (1 : Int32)) 8 (gA ob 2 i5) (gA ob 3 i5)) i1 i3 (i5 + (1 : Int32)) hf
            · refine Runs.icY (pc' := 106) d27_78 (feq hc9).2 (by decide) <| ?_
              refine Runs.aloadN d27_106 rfl <| Runs.getA d27_107 fA_0 w10 (by decide) <| Runs.iload d27_110 rfl <| ?_
              refine chk_el hf fun hi13 hf => ?_
              refine Runs.ialoadA d27_112 fA_0 (by decide) hi13 <| Runs.iconst d27_113 ci_3 <| ?_
              refine ite_el hf (fun hc14 hf => ?_) (fun hc14 hf => ?_)
              · refine Runs.icN d27_114 (teq hc14).2 <| ?_
                refine Runs.aloadN d27_117 rfl <| Runs.getA d27_118 fA_7 w25 (by decide) <| Runs.iload d27_121 rfl <| Runs.iconst d27_123 ci_0 <| ?_
                refine chk_el hf fun hi15 hf => ?_
                exact Runs.bastoreA (y := (0 : Int32)) d27_124 fA_7 (by decide) hi15 rfl <| Runs.iinc (P' := [vr a, vi i1, vn, vi i3, vn, vi (i5 + (1 : Int32)), vi (gA ob 2 i5)]) d27_125 ci_1 rfl (by decide) rfl <| Runs.goto (pc' := 18) d27_128 (by decide) <| Runs.forget [true, true, false, true, false, true, false] rfl <| hk18 (sA ob 7 (gA ob 2 i5) (0 : Int32)) i1 i3 (i5 + (1 : Int32)) hf
              · refine Runs.icY (pc' := 125) d27_114 (feq hc14).2 (by decide) <| ?_
                exact Runs.iinc (P' := [vr a, vi i1, vn, vi i3, vn, vi (i5 + (1 : Int32)), vi (gA ob 2 i5)]) d27_125 ci_1 rfl (by decide) rfl <| Runs.goto (pc' := 18) d27_128 (by decide) <| Runs.forget [true, true, false, true, false, true, false] rfl <| hk18 ob i1 i3 (i5 + (1 : Int32)) hf
          · refine Runs.icN d27_64 (flt hc7).1 <| ?_
            exact Runs.goto (pc' := 125) d27_67 (by decide) <| Runs.iinc (P' := [vr a, vi i1, vn, vi i3, vn, vi (i5 + (1 : Int32)), vi (gA ob 2 i5)]) d27_125 ci_1 rfl (by decide) rfl <| Runs.goto (pc' := 18) d27_128 (by decide) <| Runs.forget [true, true, false, true, false, true, false] rfl <| hk18 ob i1 i3 (i5 + (1 : Int32)) hf
      · refine Runs.icN d27_40 (feq hc4).1 <| ?_
        exact Runs.goto (pc' := 125) d27_43 (by decide) <| Runs.iinc (P' := [vr a, vi i1, vn, vi i3, vn, vi (i5 + (1 : Int32)), vn]) d27_125 ci_1 rfl (by decide) rfl <| Runs.goto (pc' := 18) d27_128 (by decide) <| hk18 ob i1 i3 (i5 + (1 : Int32)) hf
    · refine Runs.icY (pc' := 131) d27_29 (flt hc2).2.1 (by decide) <| ?_
      obtain rfl := Option.some.inj hf
      exact Runs.retV d27_131 rfl ⟨by decide, by decide⟩ ⟨rfl, rfl⟩
  · refine Runs.icY (pc' := 131) d27_21 (flt hc1).2.1 (by decide) <| ?_
    obtain rfl := Option.some.inj hf
    exact Runs.retV d27_131 rfl ⟨by decide, by decide⟩ ⟨rfl, rfl⟩
theorem X_applyToPublisher_l18_p {C : Ctx} {top : Nat} {a : Nat} {H : List (Nat × Nat × Rec)} {res : Rec} {NF : Nat} (n : Nat) (ob : Rec) (i1 : Int32) (i3 : Int32) (i5 : Int32) (hf : X_applyToPublisher_l18 NF n ob i1 i3 i5 = some res) : Runs C B27 0 0 18 [vr a, vi i1, vn, vi i3, vn, vi i5, vn] [] (top, (a, 17, ob) :: H) (Ans none (top, (a, 17, res) :: H)) := by
  induction n generalizing ob i1 i3 i5 with
  | zero => cases (show (none : Option (Rec)) = some res from hf)
  | succ n ih => exact X_applyToPublisher_w18_p (X_applyToPublisher_l18 NF n) (fun ob i1 i3 i5 h => ih _ _ _ _ h) ob i1 i3 i5 hf
def X_applyToPublisher (NF : Nat) (ob : Rec) (i1 : Int32) (i2 : Int32) (i3 : Int32) : Option (Rec) :=
  if (i2 + (1 : Int32)) < (1 : Int32) then
    X_applyToPublisher_l18 NF NF ob i1 i3 (1 : Int32)
  else
    X_applyToPublisher_l18 NF NF ob i1 i3 (i2 + (1 : Int32))
set_option maxRecDepth 65536 in
set_option maxHeartbeats 4000000 in
theorem X_applyToPublisher_p {C : Ctx} {top : Nat} {a : Nat} {H : List (Nat × Nat × Rec)} {res : Rec} {NF : Nat} (ob : Rec) (i1 : Int32) (i2 : Int32) (i3 : Int32) (hf : X_applyToPublisher NF ob i1 i2 i3 = some res) : Runs C B27 0 0 0 [vr a, vi i1, vi i2, vi i3, vn, vn, vn] [] (top, (a, 17, ob) :: H) (Ans none (top, (a, 17, res) :: H)) := by
  delta X_applyToPublisher at hf
  refine Runs.iloadN d27_0 rfl <| Runs.iconst d27_1 ci_1 <| Runs.iadd d27_2 <| Runs.istore (P' := [vr a, vi i1, vi i2, vi i3, vi (i2 + (1 : Int32)), vn, vn]) d27_3 (by decide) rfl <| Runs.iload d27_5 rfl <| Runs.iconst d27_7 ci_1 <| ?_
  refine ite_el hf (fun hc16 hf => ?_) (fun hc16 hf => ?_)
  · refine Runs.icN d27_8 (tlt hc16).2.1 <| ?_
    exact Runs.iconst d27_11 ci_1 <| Runs.istore (P' := [vr a, vi i1, vi i2, vi i3, vi (1 : Int32), vn, vn]) d27_12 (by decide) rfl <| Runs.iload d27_14 rfl <| Runs.istore (P' := [vr a, vi i1, vi i2, vi i3, vi (1 : Int32), vi (1 : Int32), vn]) d27_16 (by decide) rfl <| Runs.forget [true, true, false, true, false, true, false] rfl <| X_applyToPublisher_l18_p NF ob i1 i3 (1 : Int32) hf
  · refine Runs.icY (pc' := 14) d27_8 (flt hc16).2.1 (by decide) <| ?_
    exact Runs.iload d27_14 rfl <| Runs.istore (P' := [vr a, vi i1, vi i2, vi i3, vi (i2 + (1 : Int32)), vi (i2 + (1 : Int32)), vn]) d27_16 (by decide) rfl <| Runs.forget [true, true, false, true, false, true, false] rfl <| X_applyToPublisher_l18_p NF ob i1 i3 (i2 + (1 : Int32)) hf
theorem X_applyToPublisher_pay {C : Ctx} {top : Nat} {a : Nat} {H : List (Nat × Nat × Rec)} {res : Rec} {NF : Nat} {ob : Rec} {i1 : Int32} {i2 : Int32} {i3 : Int32} (hf : X_applyToPublisher NF ob i1 i2 i3 = some res) : Pays C B27 [.ref a, .int i1, .int i2, .int i3] (top, (a, 17, ob) :: H) (Ans none (top, (a, 17, res) :: H)) :=
  Pays.of pnK (Nat.le_of_ble_eq_true rfl) (P := [vr a, vi i1, vi i2, vi i3, vn, vn, vn]) 3 rfl (X_applyToPublisher_p ob i1 i2 i3 hf)
def X_commit (NF : Nat) (ob : Rec) (i1 : Int32) : Option (Int32 × Rec) :=
  (X_checkOpenSlot ob i1).bind fun r1 =>
  if r1 = (0 : Int32) then
    (X_logFull ob).bind fun r4 =>
    if r4 = (0 : Int32) then
      chk (8 : Int32) i1 <|
      bind2 (X_append ob (4 : Int32) i1 (0 : Int32) (0 : Int32)) fun r8 q9 =>
      chk (129 : Int32) r8 <|
      (X_applyToPublisher NF (sA q9 4 r8 (gA ob 6 i1)) i1 (gA ob 6 i1) r8).bind fun q12 =>
      chk (8 : Int32) i1 <|
      some (r8, (sA q12 5 i1 (0 : Int32)))
    else
      some ((-4 : Int32), ob)
  else
    some (r1, ob)
set_option maxRecDepth 65536 in
set_option maxHeartbeats 4000000 in
theorem X_commit_p {C : Ctx} {top : Nat} {a : Nat} {H : List (Nat × Nat × Rec)} {res : Int32 × Rec} {NF : Nat} (ob : Rec) (i1 : Int32) (hf : X_commit NF ob i1 = some res) : Runs C B25 0 0 0 [vr a, vi i1, vn, vn, vn] [] (top, (a, 17, ob) :: H) (Ans (some (.int res.1)) (top, (a, 17, res.2) :: H)) := by
  delta X_commit at hf
  refine Runs.aloadN d25_0 rfl <| Runs.iloadN d25_1 rfl <| ?_
  refine bind_el hf fun r1 hg2 hf => ?_
  refine Runs.callP (N := B6) (W := 0) (as := [.int i1]) (S' := []) d25_2 w82 w83 w84 rfl cw6 ar6 rk25_6_0 (by decide) rfl rfl (X_checkOpenSlot_pay hg2) <| ans1 <| Runs.istoreN (P' := [vr a, vi i1, vi r1, vn, vn]) d25_5 (by decide) rfl <| Runs.iloadN d25_6 rfl <| ?_
  refine ite_el hf (fun hc3 hf => ?_) (fun hc3 hf => ?_)
  · refine Runs.ifY (pc' := 12) d25_7 (teq hc3).1 (by decide) <| ?_
    refine Runs.aloadN d25_12 rfl <| ?_
    refine bind_el hf fun r4 hg5 hf => ?_
    refine Runs.callP (N := B12) (W := 0) (as := []) (S' := []) d25_13 w109 w110 w111 rfl cw12 ar12 rk25_12_0 (by decide) rfl rfl (X_logFull_pay hg5) <| ans1 <| ?_
    refine ite_el hf (fun hc6 hf => ?_) (fun hc6 hf => ?_)
    · refine Runs.ifY (pc' := 22) d25_16 (teq hc6).1 (by decide) <| ?_
      refine Runs.aloadN d25_22 rfl <| Runs.getA d25_23 fA_6 w23 (by decide) <| Runs.iloadN d25_26 rfl <| ?_
      refine chk_el hf fun hi7 hf => ?_
      refine Runs.ialoadA d25_27 fA_6 (by decide) hi7 <| Runs.istoreN (P' := [vr a, vi i1, vi r1, vi (gA ob 6 i1), vn]) d25_28 (by decide) rfl <| Runs.aloadN d25_29 rfl <| Runs.iconst d25_30 ci_4 <| Runs.iloadN d25_31 rfl <| Runs.iconst d25_32 ci_0 <| Runs.iconst d25_33 ci_0 <| ?_
      refine bind2_el hf fun r8 q9 hg10 hf => ?_
      refine Runs.callP (N := B13) (W := 0) (as := [.int (4 : Int32), .int i1, .int (0 : Int32), .int (0 : Int32)]) (S' := []) d25_34 w113 w114 w115 rfl cw13 ar13 rk25_13_0 (by decide) rfl rfl (X_append_pay hg10) <| ans1 <| Runs.istore (P' := [vr a, vi i1, vi r1, vi (gA ob 6 i1), vi r8]) d25_37 (by decide) rfl <| Runs.aloadN d25_39 rfl <| Runs.getA d25_40 fA_4 w18 (by decide) <| Runs.iload d25_43 rfl <| Runs.iloadN d25_45 rfl <| ?_
      refine chk_el hf fun hi11 hf => ?_
      refine Runs.iastoreA d25_46 fA_4 (by decide) hi11 <| Runs.aloadN d25_47 rfl <| Runs.iloadN d25_48 rfl <| Runs.iloadN d25_49 rfl <| Runs.iload d25_50 rfl <| ?_
      refine bind_el hf fun q12 hg13 hf => ?_
      refine Runs.callP (N := B27) (W := 0) (as := [.int i1, .int (gA ob 6 i1), .int r8]) (S' := []) d25_52 w178 w179 w180 rfl cw27 ar27 rk25_27_0 (by decide) rfl rfl (X_applyToPublisher_pay hg13) <| ans0 <| Runs.aloadN d25_55 rfl <| Runs.getA d25_56 fA_5 w21 (by decide) <| Runs.iloadN d25_59 rfl <| Runs.iconst d25_60 ci_0 <| ?_
      refine chk_el hf fun hi14 hf => ?_
      obtain rfl := Option.some.inj hf
      exact Runs.bastoreA (y := (0 : Int32)) d25_61 fA_5 (by decide) hi14 rfl <| Runs.iload d25_62 rfl <| Runs.retI d25_64 rfl ⟨by decide, by decide⟩ ⟨rfl, rfl⟩
    · refine Runs.ifN d25_16 (feq hc6).1 <| ?_
      obtain rfl := Option.some.inj hf
      exact Runs.bipush d25_19 cb_m4 <| Runs.retI d25_21 rfl ⟨by decide, by decide⟩ ⟨rfl, rfl⟩
  · refine Runs.ifN d25_7 (feq hc3).1 <| ?_
    obtain rfl := Option.some.inj hf
    exact Runs.iloadN d25_10 rfl <| Runs.retI d25_11 rfl ⟨by decide, by decide⟩ ⟨rfl, rfl⟩
theorem X_commit_pay {C : Ctx} {top : Nat} {a : Nat} {H : List (Nat × Nat × Rec)} {res : Int32 × Rec} {NF : Nat} {ob : Rec} {i1 : Int32} (hf : X_commit NF ob i1 = some res) : Pays C B25 [.ref a, .int i1] (top, (a, 17, ob) :: H) (Ans (some (.int res.1)) (top, (a, 17, res.2) :: H)) :=
  Pays.of pnK (Nat.le_of_ble_eq_true rfl) (P := [vr a, vi i1, vn, vn, vn]) 3 rfl (X_commit_p ob i1 hf)
def X_countOpen_w4 (NF : Nat) (ob : Rec) (k4 : Int32 → Int32 → Option (Int32)) (i1 : Int32) (i2 : Int32) : Option (Int32) :=
  if i2 < (gI ob 1) then
    if i2 < (8 : Int32) then
      chk (8 : Int32) i2 <|
      if (gA ob 5 i2) = (0 : Int32) then
        k4 i1 (i2 + (1 : Int32))
      else
        k4 (i1 + (1 : Int32)) (i2 + (1 : Int32))
    else
      some i1
  else
    some i1
def X_countOpen_l4 (NF : Nat) (ob : Rec) : Nat → Int32 → Int32 → Option (Int32)
  | 0, _, _ => none
  | n + 1, i1, i2 => X_countOpen_w4 NF ob (X_countOpen_l4 NF ob n) i1 i2
set_option maxRecDepth 65536 in
set_option maxHeartbeats 4000000 in
theorem X_countOpen_w4_p {C : Ctx} {top : Nat} {a : Nat} {H : List (Nat × Nat × Rec)} {ob : Rec} {res : Int32} {NF : Nat} (k4 : Int32 → Int32 → Option (Int32)) (hk4 : ∀ (i1 : Int32) (i2 : Int32), k4 i1 i2 = some res → Runs C B9 0 0 4 [vr a, vi i1, vi i2] [] (top, (a, 17, ob) :: H) (Ans (some (.int res)) (top, (a, 17, ob) :: H))) (i1 : Int32) (i2 : Int32) (hf : X_countOpen_w4 NF ob k4 i1 i2 = some res) : Runs C B9 0 0 4 [vr a, vi i1, vi i2] [] (top, (a, 17, ob) :: H) (Ans (some (.int res)) (top, (a, 17, ob) :: H)) := by
  delta X_countOpen_w4 at hf
  refine Runs.iloadN d9_4 rfl <| Runs.aloadN d9_5 rfl <| Runs.getI d9_6 w51 fS_1 <| ?_
  refine ite_el hf (fun hc1 hf => ?_) (fun hc1 hf => ?_)
  · refine Runs.icN d9_9 (tlt hc1).2.1 <| ?_
    refine Runs.iloadN d9_12 rfl <| Runs.bipush d9_13 cb_8 <| ?_
    refine ite_el hf (fun hc2 hf => ?_) (fun hc2 hf => ?_)
    · refine Runs.icN d9_15 (tlt hc2).2.1 <| ?_
      refine Runs.aloadN d9_18 rfl <| Runs.getA d9_19 fA_5 w21 (by decide) <| Runs.iloadN d9_22 rfl <| ?_
      refine chk_el hf fun hi3 hf => ?_
      refine Runs.baloadA d9_23 fA_5 (by decide) hi3 <| ?_
      refine ite_el hf (fun hc4 hf => ?_) (fun hc4 hf => ?_)
      · refine Runs.ifY (pc' := 30) d9_24 (teq hc4).1 (by decide) <| ?_
        exact Runs.iinc (P' := [vr a, vi i1, vi (i2 + (1 : Int32))]) d9_30 ci_1 rfl (by decide) rfl <| Runs.goto (pc' := 4) d9_33 (by decide) <| hk4 i1 (i2 + (1 : Int32)) hf
      · refine Runs.ifN d9_24 (feq hc4).1 <| ?_
        exact Runs.iinc (P' := [vr a, vi (i1 + (1 : Int32)), vi i2]) d9_27 ci_1 rfl (by decide) rfl <| Runs.iinc (P' := [vr a, vi (i1 + (1 : Int32)), vi (i2 + (1 : Int32))]) d9_30 ci_1 rfl (by decide) rfl <| Runs.goto (pc' := 4) d9_33 (by decide) <| hk4 (i1 + (1 : Int32)) (i2 + (1 : Int32)) hf
    · refine Runs.icY (pc' := 36) d9_15 (flt hc2).2.1 (by decide) <| ?_
      obtain rfl := Option.some.inj hf
      exact Runs.iloadN d9_36 rfl <| Runs.retI d9_37 rfl ⟨by decide, by decide⟩ ⟨rfl, rfl⟩
  · refine Runs.icY (pc' := 36) d9_9 (flt hc1).2.1 (by decide) <| ?_
    obtain rfl := Option.some.inj hf
    exact Runs.iloadN d9_36 rfl <| Runs.retI d9_37 rfl ⟨by decide, by decide⟩ ⟨rfl, rfl⟩
theorem X_countOpen_l4_p {C : Ctx} {top : Nat} {a : Nat} {H : List (Nat × Nat × Rec)} {ob : Rec} {res : Int32} {NF : Nat} (n : Nat) (i1 : Int32) (i2 : Int32) (hf : X_countOpen_l4 NF ob n i1 i2 = some res) : Runs C B9 0 0 4 [vr a, vi i1, vi i2] [] (top, (a, 17, ob) :: H) (Ans (some (.int res)) (top, (a, 17, ob) :: H)) := by
  induction n generalizing i1 i2 with
  | zero => cases (show (none : Option (Int32)) = some res from hf)
  | succ n ih => exact X_countOpen_w4_p (X_countOpen_l4 NF ob n) (fun i1 i2 h => ih _ _ h) i1 i2 hf
def X_countOpen (NF : Nat) (ob : Rec) : Option (Int32) :=
  X_countOpen_l4 NF ob NF (0 : Int32) (0 : Int32)
set_option maxRecDepth 65536 in
set_option maxHeartbeats 4000000 in
theorem X_countOpen_p {C : Ctx} {top : Nat} {a : Nat} {H : List (Nat × Nat × Rec)} {ob : Rec} {res : Int32} {NF : Nat} (hf : X_countOpen NF ob = some res) : Runs C B9 0 0 0 [vr a, vn, vn] [] (top, (a, 17, ob) :: H) (Ans (some (.int res)) (top, (a, 17, ob) :: H)) := by
  delta X_countOpen at hf
  exact Runs.iconst d9_0 ci_0 <| Runs.istoreN (P' := [vr a, vi (0 : Int32), vn]) d9_1 (by decide) rfl <| Runs.iconst d9_2 ci_0 <| Runs.istoreN (P' := [vr a, vi (0 : Int32), vi (0 : Int32)]) d9_3 (by decide) rfl <| X_countOpen_l4_p NF (0 : Int32) (0 : Int32) hf
theorem X_countOpen_pay {C : Ctx} {top : Nat} {a : Nat} {H : List (Nat × Nat × Rec)} {ob : Rec} {res : Int32} {NF : Nat} (hf : X_countOpen NF ob = some res) : Pays C B9 [.ref a] (top, (a, 17, ob) :: H) (Ans (some (.int res)) (top, (a, 17, ob) :: H)) :=
  Pays.of pnK (Nat.le_of_ble_eq_true rfl) (P := [vr a, vn, vn]) 2 rfl (X_countOpen_p hf)
def X_info (NF : Nat) (ob : Rec) (i1 : Int32) : Option (Int32) :=
  if i1 = (0 : Int32) then
    some (gI ob 4)
  else
  if i1 = (1 : Int32) then
    (X_countOpen NF ob).bind fun r3 =>
    some r3
  else
  if i1 = (2 : Int32) then
    some (gI ob 5)
  else
  if i1 = (3 : Int32) then
    some (gI ob 9)
  else
  if i1 = (4 : Int32) then
    some (gI ob 6)
  else
  if i1 = (5 : Int32) then
    some (gI ob 7)
  else
  if i1 = (6 : Int32) then
    none
  else
  if i1 = (7 : Int32) then
    none
  else
    some (-1 : Int32)
set_option maxRecDepth 65536 in
set_option maxHeartbeats 4000000 in
theorem X_info_p {C : Ctx} {top : Nat} {a : Nat} {H : List (Nat × Nat × Rec)} {ob : Rec} {res : Int32} {NF : Nat} (i1 : Int32) (hf : X_info NF ob i1 = some res) : Runs C B8 0 0 0 [vr a, vi i1] [] (top, (a, 17, ob) :: H) (Ans (some (.int res)) (top, (a, 17, ob) :: H)) := by
  delta X_info at hf
  refine Runs.iloadN d8_0 rfl <| ?_
  refine ite_el hf (fun hc1 hf => ?_) (fun hc1 hf => ?_)
  · refine Runs.tswI (pc' := 48) d8_1 (by rw [hc1]; decide) (by rw [hc1]; rfl) (by decide) <| ?_
    obtain rfl := Option.some.inj hf
    exact Runs.aloadN d8_48 rfl <| Runs.getI d8_49 w57 fS_4 <| Runs.retI d8_52 rfl ⟨by decide, by decide⟩ ⟨rfl, rfl⟩
  refine ite_el hf (fun hc2 hf => ?_) (fun hc2 hf => ?_)
  · refine Runs.tswI (pc' := 53) d8_1 (by rw [hc2]; decide) (by rw [hc2]; rfl) (by decide) <| ?_
    refine Runs.aloadN d8_53 rfl <| ?_
    refine bind_el hf fun r3 hg4 hf => ?_
    obtain rfl := Option.some.inj hf
    exact Runs.callP (N := B9) (W := 0) (as := []) (S' := []) d8_54 w95 w96 w97 rfl cw9 ar9 rk8_9_0 (by decide) rfl rfl (X_countOpen_pay hg4) <| ans1 <| Runs.retI d8_57 rfl ⟨by decide, by decide⟩ ⟨rfl, rfl⟩
  refine ite_el hf (fun hc5 hf => ?_) (fun hc5 hf => ?_)
  · refine Runs.tswI (pc' := 58) d8_1 (by rw [hc5]; decide) (by rw [hc5]; rfl) (by decide) <| ?_
    obtain rfl := Option.some.inj hf
    exact Runs.aloadN d8_58 rfl <| Runs.getI d8_59 w59 fS_5 <| Runs.retI d8_62 rfl ⟨by decide, by decide⟩ ⟨rfl, rfl⟩
  refine ite_el hf (fun hc6 hf => ?_) (fun hc6 hf => ?_)
  · refine Runs.tswI (pc' := 63) d8_1 (by rw [hc6]; decide) (by rw [hc6]; rfl) (by decide) <| ?_
    obtain rfl := Option.some.inj hf
    exact Runs.aloadN d8_63 rfl <| Runs.getI d8_64 w67 fS_9 <| Runs.retI d8_67 rfl ⟨by decide, by decide⟩ ⟨rfl, rfl⟩
  refine ite_el hf (fun hc7 hf => ?_) (fun hc7 hf => ?_)
  · refine Runs.tswI (pc' := 68) d8_1 (by rw [hc7]; decide) (by rw [hc7]; rfl) (by decide) <| ?_
    obtain rfl := Option.some.inj hf
    exact Runs.aloadN d8_68 rfl <| Runs.getI d8_69 w61 fS_6 <| Runs.retI d8_72 rfl ⟨by decide, by decide⟩ ⟨rfl, rfl⟩
  refine ite_el hf (fun hc8 hf => ?_) (fun hc8 hf => ?_)
  · refine Runs.tswI (pc' := 73) d8_1 (by rw [hc8]; decide) (by rw [hc8]; rfl) (by decide) <| ?_
    obtain rfl := Option.some.inj hf
    exact Runs.aloadN d8_73 rfl <| Runs.getI d8_74 w63 fS_7 <| Runs.retI d8_77 rfl ⟨by decide, by decide⟩ ⟨rfl, rfl⟩
  refine ite_el hf (fun hc9 hf => ?_) (fun hc9 hf => ?_)
  · refine Runs.tswI (pc' := 78) d8_1 (by rw [hc9]; decide) (by rw [hc9]; rfl) (by decide) <| ?_
    cases hf
  refine ite_el hf (fun hc10 hf => ?_) (fun hc10 hf => ?_)
  · refine Runs.tswI (pc' := 83) d8_1 (by rw [hc10]; decide) (by rw [hc10]; rfl) (by decide) <| ?_
    cases hf
  refine Runs.tswO (pc' := 88) d8_1 (by have u0 : Int32.toInt i1 ≠ 0 := fun u => hc1 (Int32.toInt_inj.mp (u.trans (by decide))); have u1 : Int32.toInt i1 ≠ 1 := fun u => hc2 (Int32.toInt_inj.mp (u.trans (by decide))); have u2 : Int32.toInt i1 ≠ 2 := fun u => hc5 (Int32.toInt_inj.mp (u.trans (by decide))); have u3 : Int32.toInt i1 ≠ 3 := fun u => hc6 (Int32.toInt_inj.mp (u.trans (by decide))); have u4 : Int32.toInt i1 ≠ 4 := fun u => hc7 (Int32.toInt_inj.mp (u.trans (by decide))); have u5 : Int32.toInt i1 ≠ 5 := fun u => hc8 (Int32.toInt_inj.mp (u.trans (by decide))); have u6 : Int32.toInt i1 ≠ 6 := fun u => hc9 (Int32.toInt_inj.mp (u.trans (by decide))); have u7 : Int32.toInt i1 ≠ 7 := fun u => hc10 (Int32.toInt_inj.mp (u.trans (by decide))); omega) (by decide) <| ?_
  obtain rfl := Option.some.inj hf
  exact Runs.iconst d8_88 ci_m1 <| Runs.retI d8_89 rfl ⟨by decide, by decide⟩ ⟨rfl, rfl⟩
theorem X_info_pay {C : Ctx} {top : Nat} {a : Nat} {H : List (Nat × Nat × Rec)} {ob : Rec} {res : Int32} {NF : Nat} {i1 : Int32} (hf : X_info NF ob i1 = some res) : Pays C B8 [.ref a, .int i1] (top, (a, 17, ob) :: H) (Ans (some (.int res)) (top, (a, 17, ob) :: H)) :=
  Pays.of pnK (Nat.le_of_ble_eq_true rfl) (P := [vr a, vi i1]) 0 rfl (X_info_p i1 hf)
def X_nextCommit_w13 (NF : Nat) (ob : Rec) (k13 : Int32 → Option (Int32)) (i3 : Int32) : Option (Int32) :=
  if (gI ob 4) < i3 then
    some (0 : Int32)
  else
    if i3 < (129 : Int32) then
      chk (129 : Int32) i3 <|
      if (gA ob 0 i3) = (4 : Int32) then
        some i3
      else
        k13 (i3 + (1 : Int32))
    else
      some (0 : Int32)
def X_nextCommit_l13 (NF : Nat) (ob : Rec) : Nat → Int32 → Option (Int32)
  | 0, _ => none
  | n + 1, i3 => X_nextCommit_w13 NF ob (X_nextCommit_l13 NF ob n) i3
set_option maxRecDepth 65536 in
set_option maxHeartbeats 4000000 in
theorem X_nextCommit_w13_p {C : Ctx} {top : Nat} {a : Nat} {H : List (Nat × Nat × Rec)} {ob : Rec} {res : Int32} {NF : Nat} (k13 : Int32 → Option (Int32)) (hk13 : ∀ (i3 : Int32), k13 i3 = some res → Runs C B17 0 0 13 [vr a, vn, vn, vi i3] [] (top, (a, 17, ob) :: H) (Ans (some (.int res)) (top, (a, 17, ob) :: H))) (i3 : Int32) (hf : X_nextCommit_w13 NF ob k13 i3 = some res) : Runs C B17 0 0 13 [vr a, vn, vn, vi i3] [] (top, (a, 17, ob) :: H) (Ans (some (.int res)) (top, (a, 17, ob) :: H)) := by
  delta X_nextCommit_w13 at hf
  refine Runs.iloadN d17_13 rfl <| Runs.aloadN d17_14 rfl <| Runs.getI d17_15 w57 fS_4 <| ?_
  refine ite_el hf (fun hc1 hf => ?_) (fun hc1 hf => ?_)
  · refine Runs.icY (pc' := 46) d17_18 (tlt hc1).2.2.1 (by decide) <| ?_
    obtain rfl := Option.some.inj hf
    exact Runs.iconst d17_46 ci_0 <| Runs.retI d17_47 rfl ⟨by decide, by decide⟩ ⟨rfl, rfl⟩
  · refine Runs.icN d17_18 (flt hc1).2.2.1 <| ?_
    refine Runs.iloadN d17_21 rfl <| Runs.sipush d17_22 cs_129 <| ?_
    refine ite_el hf (fun hc2 hf => ?_) (fun hc2 hf => ?_)
    · refine Runs.icN d17_25 (tlt hc2).2.1 <| ?_
      refine Runs.aloadN d17_28 rfl <| Runs.getA d17_29 fA_0 w10 (by decide) <| Runs.iloadN d17_32 rfl <| ?_
      refine chk_el hf fun hi3 hf => ?_
      refine Runs.ialoadA d17_33 fA_0 (by decide) hi3 <| Runs.iconst d17_34 ci_4 <| ?_
      refine ite_el hf (fun hc4 hf => ?_) (fun hc4 hf => ?_)
      · refine Runs.icN d17_35 (teq hc4).2 <| ?_
        obtain rfl := Option.some.inj hf
        exact Runs.iloadN d17_38 rfl <| Runs.retI d17_39 rfl ⟨by decide, by decide⟩ ⟨rfl, rfl⟩
      · refine Runs.icY (pc' := 40) d17_35 (feq hc4).2 (by decide) <| ?_
        exact Runs.iinc (P' := [vr a, vn, vn, vi (i3 + (1 : Int32))]) d17_40 ci_1 rfl (by decide) rfl <| Runs.goto (pc' := 13) d17_43 (by decide) <| hk13 (i3 + (1 : Int32)) hf
    · refine Runs.icY (pc' := 46) d17_25 (flt hc2).2.1 (by decide) <| ?_
      obtain rfl := Option.some.inj hf
      exact Runs.iconst d17_46 ci_0 <| Runs.retI d17_47 rfl ⟨by decide, by decide⟩ ⟨rfl, rfl⟩
theorem X_nextCommit_l13_p {C : Ctx} {top : Nat} {a : Nat} {H : List (Nat × Nat × Rec)} {ob : Rec} {res : Int32} {NF : Nat} (n : Nat) (i3 : Int32) (hf : X_nextCommit_l13 NF ob n i3 = some res) : Runs C B17 0 0 13 [vr a, vn, vn, vi i3] [] (top, (a, 17, ob) :: H) (Ans (some (.int res)) (top, (a, 17, ob) :: H)) := by
  induction n generalizing i3 with
  | zero => cases (show (none : Option (Int32)) = some res from hf)
  | succ n ih => exact X_nextCommit_w13_p (X_nextCommit_l13 NF ob n) (fun i3 h => ih _ h) i3 hf
def X_nextCommit (NF : Nat) (ob : Rec) (i1 : Int32) : Option (Int32) :=
  if (i1 + (1 : Int32)) < (1 : Int32) then
    X_nextCommit_l13 NF ob NF (1 : Int32)
  else
    X_nextCommit_l13 NF ob NF (i1 + (1 : Int32))
set_option maxRecDepth 65536 in
set_option maxHeartbeats 4000000 in
theorem X_nextCommit_p {C : Ctx} {top : Nat} {a : Nat} {H : List (Nat × Nat × Rec)} {ob : Rec} {res : Int32} {NF : Nat} (i1 : Int32) (hf : X_nextCommit NF ob i1 = some res) : Runs C B17 0 0 0 [vr a, vi i1, vn, vn] [] (top, (a, 17, ob) :: H) (Ans (some (.int res)) (top, (a, 17, ob) :: H)) := by
  delta X_nextCommit at hf
  refine Runs.iloadN d17_0 rfl <| Runs.iconst d17_1 ci_1 <| Runs.iadd d17_2 <| Runs.istoreN (P' := [vr a, vi i1, vi (i1 + (1 : Int32)), vn]) d17_3 (by decide) rfl <| Runs.iloadN d17_4 rfl <| Runs.iconst d17_5 ci_1 <| ?_
  refine ite_el hf (fun hc5 hf => ?_) (fun hc5 hf => ?_)
  · refine Runs.icN d17_6 (tlt hc5).2.1 <| ?_
    exact Runs.iconst d17_9 ci_1 <| Runs.istoreN (P' := [vr a, vi i1, vi (1 : Int32), vn]) d17_10 (by decide) rfl <| Runs.iloadN d17_11 rfl <| Runs.istoreN (P' := [vr a, vi i1, vi (1 : Int32), vi (1 : Int32)]) d17_12 (by decide) rfl <| Runs.forget [true, false, false, true] rfl <| X_nextCommit_l13_p NF (1 : Int32) hf
  · refine Runs.icY (pc' := 11) d17_6 (flt hc5).2.1 (by decide) <| ?_
    exact Runs.iloadN d17_11 rfl <| Runs.istoreN (P' := [vr a, vi i1, vi (i1 + (1 : Int32)), vi (i1 + (1 : Int32))]) d17_12 (by decide) rfl <| Runs.forget [true, false, false, true] rfl <| X_nextCommit_l13_p NF (i1 + (1 : Int32)) hf
theorem X_nextCommit_pay {C : Ctx} {top : Nat} {a : Nat} {H : List (Nat × Nat × Rec)} {ob : Rec} {res : Int32} {NF : Nat} {i1 : Int32} (hf : X_nextCommit NF ob i1 = some res) : Pays C B17 [.ref a, .int i1] (top, (a, 17, ob) :: H) (Ans (some (.int res)) (top, (a, 17, ob) :: H)) :=
  Pays.of pnK (Nat.le_of_ble_eq_true rfl) (P := [vr a, vi i1, vn, vn]) 2 rfl (X_nextCommit_p i1 hf)
def X_enqueue_b34 (ob : Rec) (i1 : Int32) (i2 : Int32) (i3 : Int32) (i4 : Int32) (i5 : Int32) : Option (Rec) :=
  chk (128 : Int32) i5 <|
  chk (128 : Int32) i5 <|
  chk (128 : Int32) i5 <|
  chk (128 : Int32) i5 <|
  some (sI (sA (sA (sA (sA ob 13 i5 i1) 14 i5 i2) 15 i5 i3) 16 i5 i4) 9 ((gI ob 9) + (1 : Int32)))
set_option maxRecDepth 65536 in
set_option maxHeartbeats 4000000 in
theorem X_enqueue_b34_p {C : Ctx} {top : Nat} {a : Nat} {H : List (Nat × Nat × Rec)} {res : Rec} (ob : Rec) (i1 : Int32) (i2 : Int32) (i3 : Int32) (i4 : Int32) (i5 : Int32) (hf : X_enqueue_b34 ob i1 i2 i3 i4 i5 = some res) : Runs C B29 0 0 34 [vr a, vi i1, vi i2, vi i3, vi i4, vi i5] [] (top, (a, 17, ob) :: H) (Ans none (top, (a, 17, res) :: H)) := by
  delta X_enqueue_b34 at hf
  refine Runs.aloadN d29_34 rfl <| Runs.getA d29_35 fA_13 w37 (by decide) <| Runs.iload d29_38 rfl <| Runs.iloadN d29_40 rfl <| ?_
  refine chk_el hf fun hi1 hf => ?_
  refine Runs.iastoreA d29_41 fA_13 (by decide) hi1 <| Runs.aloadN d29_42 rfl <| Runs.getA d29_43 fA_14 w39 (by decide) <| Runs.iload d29_46 rfl <| Runs.iloadN d29_48 rfl <| ?_
  refine chk_el hf fun hi2 hf => ?_
  refine Runs.iastoreA d29_49 fA_14 (by decide) hi2 <| Runs.aloadN d29_50 rfl <| Runs.getA d29_51 fA_15 w41 (by decide) <| Runs.iload d29_54 rfl <| Runs.iloadN d29_56 rfl <| ?_
  refine chk_el hf fun hi3 hf => ?_
  refine Runs.iastoreA d29_57 fA_15 (by decide) hi3 <| Runs.aloadN d29_58 rfl <| Runs.getA d29_59 fA_16 w43 (by decide) <| Runs.iload d29_62 rfl <| Runs.iload d29_64 rfl <| ?_
  refine chk_el hf fun hi4 hf => ?_
  obtain rfl := Option.some.inj hf
  exact Runs.iastoreA d29_66 fA_16 (by decide) hi4 <| Runs.aloadN d29_67 rfl <| Runs.dup d29_68 rfl <| Runs.getI d29_69 w67 fS_9 <| Runs.iconst d29_72 ci_1 <| Runs.iadd d29_73 <| Runs.putI d29_74 w67 fS_9 (Or.inl w68) <| Runs.retV d29_77 rfl ⟨by decide, by decide⟩ ⟨rfl, rfl⟩
def X_enqueue (ob : Rec) (i1 : Int32) (i2 : Int32) (i3 : Int32) (i4 : Int32) : Option (Rec) :=
  if (gI ob 9) < (128 : Int32) then
    if (((gI ob 8) + (gI ob 9)) % (128 : Int32)) < (0 : Int32) then
      X_enqueue_b34 ob i1 i2 i3 i4 (0 : Int32)
    else
      X_enqueue_b34 ob i1 i2 i3 i4 (((gI ob 8) + (gI ob 9)) % (128 : Int32))
  else
    some ob
set_option maxRecDepth 65536 in
set_option maxHeartbeats 4000000 in
theorem X_enqueue_p {C : Ctx} {top : Nat} {a : Nat} {H : List (Nat × Nat × Rec)} {res : Rec} (ob : Rec) (i1 : Int32) (i2 : Int32) (i3 : Int32) (i4 : Int32) (hf : X_enqueue ob i1 i2 i3 i4 = some res) : Runs C B29 0 0 0 [vr a, vi i1, vi i2, vi i3, vi i4, vn] [] (top, (a, 17, ob) :: H) (Ans none (top, (a, 17, res) :: H)) := by
  delta X_enqueue at hf
  refine Runs.aloadN d29_0 rfl <| Runs.getI d29_1 w67 fS_9 <| Runs.sipush d29_4 cs_128 <| ?_
  refine ite_el hf (fun hc5 hf => ?_) (fun hc5 hf => ?_)
  · refine Runs.icY (pc' := 11) d29_7 (tlt hc5).1 (by decide) <| ?_
    refine Runs.aloadN d29_11 rfl <| Runs.getI d29_12 w65 fS_8 <| Runs.aloadN d29_15 rfl <| Runs.getI d29_16 w67 fS_9 <| Runs.iadd d29_19 <| Runs.sipush d29_20 cs_128 <| Runs.irem d29_23 (by decide) <| Runs.istore (P' := [vr a, vi i1, vi i2, vi i3, vi i4, vi (((gI ob 8) + (gI ob 9)) % (128 : Int32))]) d29_24 (by decide) rfl <| Runs.iload d29_26 rfl <| ?_
    refine ite_el hf (fun hc6 hf => ?_) (fun hc6 hf => ?_)
    · refine Runs.ifN d29_28 (tlt hc6).2.1 <| ?_
      exact Runs.iconst d29_31 ci_0 <| Runs.istore (P' := [vr a, vi i1, vi i2, vi i3, vi i4, vi (0 : Int32)]) d29_32 (by decide) rfl <| X_enqueue_b34_p ob i1 i2 i3 i4 (0 : Int32) hf
    · exact Runs.ifY (pc' := 34) d29_28 (flt hc6).2.1 (by decide) <| X_enqueue_b34_p ob i1 i2 i3 i4 (((gI ob 8) + (gI ob 9)) % (128 : Int32)) hf
  · refine Runs.icN d29_7 (flt hc5).1 <| ?_
    obtain rfl := Option.some.inj hf
    exact Runs.retV d29_10 rfl ⟨by decide, by decide⟩ ⟨rfl, rfl⟩
theorem X_enqueue_pay {C : Ctx} {top : Nat} {a : Nat} {H : List (Nat × Nat × Rec)} {res : Rec} {ob : Rec} {i1 : Int32} {i2 : Int32} {i3 : Int32} {i4 : Int32} (hf : X_enqueue ob i1 i2 i3 i4 = some res) : Pays C B29 [.ref a, .int i1, .int i2, .int i3, .int i4] (top, (a, 17, ob) :: H) (Ans none (top, (a, 17, res) :: H)) :=
  Pays.of pnK (Nat.le_of_ble_eq_true rfl) (P := [vr a, vi i1, vi i2, vi i3, vi i4, vn]) 1 rfl (X_enqueue_p ob i1 i2 i3 i4 hf)
def X_emitTransaction_b75 (NF : Nat) (k26 : Rec → Int32 → Int32 → Int32 → Option (Rec)) (ob : Rec) (i1 : Int32) (i2 : Int32) (i4 : Int32) (i5 : Int32) : Option (Rec) :=
  chk (129 : Int32) i4 <|
  chk (129 : Int32) i4 <|
  (X_enqueue ob i5 (gA ob 2 i4) (gA ob 3 i4) i1).bind fun q10 =>
  k26 q10 i1 i2 (i4 + (1 : Int32))
set_option maxRecDepth 65536 in
set_option maxHeartbeats 4000000 in
theorem X_emitTransaction_b75_p {C : Ctx} {top : Nat} {a : Nat} {H : List (Nat × Nat × Rec)} {res : Rec} {NF : Nat} (k26 : Rec → Int32 → Int32 → Int32 → Option (Rec)) (hk26 : ∀ (ob : Rec) (i1 : Int32) (i2 : Int32) (i4 : Int32), k26 ob i1 i2 i4 = some res → Runs C B28 0 0 26 [vr a, vi i1, vi i2, vn, vi i4, vn] [] (top, (a, 17, ob) :: H) (Ans none (top, (a, 17, res) :: H))) (ob : Rec) (i1 : Int32) (i2 : Int32) (i4 : Int32) (i5 : Int32) (hf : X_emitTransaction_b75 NF k26 ob i1 i2 i4 i5 = some res) : Runs C B28 0 0 75 [vr a, vi i1, vi i2, vn, vi i4, vi i5] [] (top, (a, 17, ob) :: H) (Ans none (top, (a, 17, res) :: H)) := by
  delta X_emitTransaction_b75 at hf
  refine Runs.aloadN d28_75 rfl <| Runs.iload d28_76 rfl <| Runs.aloadN d28_78 rfl <| Runs.getA d28_79 fA_2 w14 (by decide) <| Runs.iload d28_82 rfl <| ?_
  refine chk_el hf fun hi8 hf => ?_
  refine Runs.ialoadA d28_84 fA_2 (by decide) hi8 <| Runs.aloadN d28_85 rfl <| Runs.getA d28_86 fA_3 w16 (by decide) <| Runs.iload d28_89 rfl <| ?_
  refine chk_el hf fun hi9 hf => ?_
  refine Runs.ialoadA d28_91 fA_3 (by decide) hi9 <| Runs.iloadN d28_92 rfl <| ?_
  refine bind_el hf fun q10 hg11 hf => ?_
  exact Runs.callP (N := B29) (W := 0) (as := [.int i5, .int (gA ob 2 i4), .int (gA ob 3 i4), .int i1]) (S' := []) d28_93 w186 w187 w188 rfl cw29 ar29 rk28_29_0 (by decide) rfl rfl (X_enqueue_pay hg11) <| ans0 <| Runs.iinc (P' := [vr a, vi i1, vi i2, vn, vi (i4 + (1 : Int32)), vi i5]) d28_96 ci_1 rfl (by decide) rfl <| Runs.goto (pc' := 26) d28_99 (by decide) <| Runs.forget [true, true, true, false, true, false] rfl <| hk26 q10 i1 i2 (i4 + (1 : Int32)) hf
def X_emitTransaction_b102 (NF : Nat) (ob : Rec) (i1 : Int32) : Option (Rec) :=
  (X_enqueue ob (4 : Int32) (0 : Int32) (0 : Int32) i1).bind fun q12 =>
  some q12
set_option maxRecDepth 65536 in
set_option maxHeartbeats 4000000 in
theorem X_emitTransaction_b102_p {C : Ctx} {top : Nat} {a : Nat} {H : List (Nat × Nat × Rec)} {res : Rec} {NF : Nat} (ob : Rec) (i1 : Int32) (hf : X_emitTransaction_b102 NF ob i1 = some res) : Runs C B28 0 0 102 [vr a, vi i1, vn, vn, vn, vn] [] (top, (a, 17, ob) :: H) (Ans none (top, (a, 17, res) :: H)) := by
  delta X_emitTransaction_b102 at hf
  refine Runs.aloadN d28_102 rfl <| Runs.iconst d28_103 ci_4 <| Runs.iconst d28_104 ci_0 <| Runs.iconst d28_105 ci_0 <| Runs.iloadN d28_106 rfl <| ?_
  refine bind_el hf fun q12 hg13 hf => ?_
  obtain rfl := Option.some.inj hf
  exact Runs.callP (N := B29) (W := 0) (as := [.int (4 : Int32), .int (0 : Int32), .int (0 : Int32), .int i1]) (S' := []) d28_107 w186 w187 w188 rfl cw29 ar29 rk28_29_0 (by decide) rfl rfl (X_enqueue_pay hg13) <| ans0 <| Runs.retV d28_110 rfl ⟨by decide, by decide⟩ ⟨rfl, rfl⟩
def X_emitTransaction_w26 (NF : Nat) (k26 : Rec → Int32 → Int32 → Int32 → Option (Rec)) (ob : Rec) (i1 : Int32) (i2 : Int32) (i4 : Int32) : Option (Rec) :=
  if i4 < i1 then
    if i4 < (129 : Int32) then
      chk (129 : Int32) i4 <|
      if (gA ob 1 i4) = i2 then
        chk (129 : Int32) i4 <|
        if (gA ob 0 i4) = (2 : Int32) then
          X_emitTransaction_b75 NF k26 ob i1 i2 i4 (gA ob 0 i4)
        else
          if (gA ob 0 i4) = (3 : Int32) then
            X_emitTransaction_b75 NF k26 ob i1 i2 i4 (gA ob 0 i4)
          else
            k26 ob i1 i2 (i4 + (1 : Int32))
      else
        k26 ob i1 i2 (i4 + (1 : Int32))
    else
      X_emitTransaction_b102 NF ob i1
  else
    X_emitTransaction_b102 NF ob i1
def X_emitTransaction_l26 (NF : Nat) : Nat → Rec → Int32 → Int32 → Int32 → Option (Rec)
  | 0, _, _, _, _ => none
  | n + 1, ob, i1, i2, i4 => X_emitTransaction_w26 NF (X_emitTransaction_l26 NF n) ob i1 i2 i4
set_option maxRecDepth 65536 in
set_option maxHeartbeats 4000000 in
theorem X_emitTransaction_w26_p {C : Ctx} {top : Nat} {a : Nat} {H : List (Nat × Nat × Rec)} {res : Rec} {NF : Nat} (k26 : Rec → Int32 → Int32 → Int32 → Option (Rec)) (hk26 : ∀ (ob : Rec) (i1 : Int32) (i2 : Int32) (i4 : Int32), k26 ob i1 i2 i4 = some res → Runs C B28 0 0 26 [vr a, vi i1, vi i2, vn, vi i4, vn] [] (top, (a, 17, ob) :: H) (Ans none (top, (a, 17, res) :: H))) (ob : Rec) (i1 : Int32) (i2 : Int32) (i4 : Int32) (hf : X_emitTransaction_w26 NF k26 ob i1 i2 i4 = some res) : Runs C B28 0 0 26 [vr a, vi i1, vi i2, vn, vi i4, vn] [] (top, (a, 17, ob) :: H) (Ans none (top, (a, 17, res) :: H)) := by
  delta X_emitTransaction_w26 at hf
  refine Runs.iload d28_26 rfl <| Runs.iloadN d28_28 rfl <| ?_
  refine ite_el hf (fun hc1 hf => ?_) (fun hc1 hf => ?_)
  · refine Runs.icN d28_29 (tlt hc1).2.1 <| ?_
    refine Runs.iload d28_32 rfl <| Runs.sipush d28_34 cs_129 <| ?_
    refine ite_el hf (fun hc2 hf => ?_) (fun hc2 hf => ?_)
    · refine Runs.icN d28_37 (tlt hc2).2.1 <| ?_
      refine Runs.aloadN d28_40 rfl <| Runs.getA d28_41 fA_1 w12 (by decide) <| Runs.iload d28_44 rfl <| ?_
      refine chk_el hf fun hi3 hf => ?_
      refine Runs.ialoadA d28_46 fA_1 (by decide) hi3 <| Runs.iloadN d28_47 rfl <| ?_
      refine ite_el hf (fun hc4 hf => ?_) (fun hc4 hf => ?_)
      · refine Runs.icY (pc' := 54) d28_48 (teq hc4).1 (by decide) <| ?_
        refine Runs.aloadN d28_54 rfl <| Runs.getA d28_55 fA_0 w10 (by decide) <| Runs.iload d28_58 rfl <| ?_
        refine chk_el hf fun hi5 hf => ?_
        refine Runs.ialoadA d28_60 fA_0 (by decide) hi5 <| Runs.istore (P' := [vr a, vi i1, vi i2, vn, vi i4, vi (gA ob 0 i4)]) d28_61 (by decide) rfl <| Runs.iload d28_63 rfl <| Runs.iconst d28_65 ci_2 <| ?_
        refine ite_el hf (fun hc6 hf => ?_) (fun hc6 hf => ?_)
        · exact Runs.icY (pc' := 75) d28_66 (teq hc6).1 (by decide) <| X_emitTransaction_b75_p k26 hk26 ob i1 i2 i4 (gA ob 0 i4) hf
        · refine Runs.icN d28_66 (feq hc6).1 <| ?_
          refine Runs.iload d28_69 rfl <| Runs.iconst d28_71 ci_3 <| ?_
          refine ite_el hf (fun hc7 hf => ?_) (fun hc7 hf => ?_)
          · exact Runs.icN d28_72 (teq hc7).2 <| X_emitTransaction_b75_p k26 hk26 ob i1 i2 i4 (gA ob 0 i4) hf
          · refine Runs.icY (pc' := 96) d28_72 (feq hc7).2 (by decide) <| ?_
            exact Runs.iinc (P' := [vr a, vi i1, vi i2, vn, vi (i4 + (1 : Int32)), vi (gA ob 0 i4)]) d28_96 ci_1 rfl (by decide) rfl <| Runs.goto (pc' := 26) d28_99 (by decide) <| Runs.forget [true, true, true, false, true, false] rfl <| hk26 ob i1 i2 (i4 + (1 : Int32)) hf
      · refine Runs.icN d28_48 (feq hc4).1 <| ?_
        exact Runs.goto (pc' := 96) d28_51 (by decide) <| Runs.iinc (P' := [vr a, vi i1, vi i2, vn, vi (i4 + (1 : Int32)), vn]) d28_96 ci_1 rfl (by decide) rfl <| Runs.goto (pc' := 26) d28_99 (by decide) <| hk26 ob i1 i2 (i4 + (1 : Int32)) hf
    · exact Runs.icY (pc' := 102) d28_37 (flt hc2).2.1 (by decide) <| Runs.forget [true, true, false, false, false, false] rfl <| X_emitTransaction_b102_p ob i1 hf
  · exact Runs.icY (pc' := 102) d28_29 (flt hc1).2.1 (by decide) <| Runs.forget [true, true, false, false, false, false] rfl <| X_emitTransaction_b102_p ob i1 hf
theorem X_emitTransaction_l26_p {C : Ctx} {top : Nat} {a : Nat} {H : List (Nat × Nat × Rec)} {res : Rec} {NF : Nat} (n : Nat) (ob : Rec) (i1 : Int32) (i2 : Int32) (i4 : Int32) (hf : X_emitTransaction_l26 NF n ob i1 i2 i4 = some res) : Runs C B28 0 0 26 [vr a, vi i1, vi i2, vn, vi i4, vn] [] (top, (a, 17, ob) :: H) (Ans none (top, (a, 17, res) :: H)) := by
  induction n generalizing ob i1 i2 i4 with
  | zero => cases (show (none : Option (Rec)) = some res from hf)
  | succ n ih => exact X_emitTransaction_w26_p (X_emitTransaction_l26 NF n) (fun ob i1 i2 i4 h => ih _ _ _ _ h) ob i1 i2 i4 hf
def X_emitTransaction (NF : Nat) (ob : Rec) (i1 : Int32) : Option (Rec) :=
  chk (129 : Int32) i1 <|
  chk (129 : Int32) i1 <|
  if ((gA ob 4 i1) + (1 : Int32)) < (1 : Int32) then
    X_emitTransaction_l26 NF NF ob i1 (gA ob 1 i1) (1 : Int32)
  else
    X_emitTransaction_l26 NF NF ob i1 (gA ob 1 i1) ((gA ob 4 i1) + (1 : Int32))
set_option maxRecDepth 65536 in
set_option maxHeartbeats 4000000 in
theorem X_emitTransaction_p {C : Ctx} {top : Nat} {a : Nat} {H : List (Nat × Nat × Rec)} {res : Rec} {NF : Nat} (ob : Rec) (i1 : Int32) (hf : X_emitTransaction NF ob i1 = some res) : Runs C B28 0 0 0 [vr a, vi i1, vn, vn, vn, vn] [] (top, (a, 17, ob) :: H) (Ans none (top, (a, 17, res) :: H)) := by
  delta X_emitTransaction at hf
  refine Runs.aloadN d28_0 rfl <| Runs.getA d28_1 fA_1 w12 (by decide) <| Runs.iloadN d28_4 rfl <| ?_
  refine chk_el hf fun hi14 hf => ?_
  refine Runs.ialoadA d28_5 fA_1 (by decide) hi14 <| Runs.istoreN (P' := [vr a, vi i1, vi (gA ob 1 i1), vn, vn, vn]) d28_6 (by decide) rfl <| Runs.aloadN d28_7 rfl <| Runs.getA d28_8 fA_4 w18 (by decide) <| Runs.iloadN d28_11 rfl <| ?_
  refine chk_el hf fun hi15 hf => ?_
  refine Runs.ialoadA d28_12 fA_4 (by decide) hi15 <| Runs.iconst d28_13 ci_1 <| Runs.iadd d28_14 <| Runs.istoreN (P' := [vr a, vi i1, vi (gA ob 1 i1), vi ((gA ob 4 i1) + (1 : Int32)), vn, vn]) d28_15 (by decide) rfl <| Runs.iloadN d28_16 rfl <| Runs.iconst d28_17 ci_1 <| ?_
  refine ite_el hf (fun hc16 hf => ?_) (fun hc16 hf => ?_)
  · refine Runs.icN d28_18 (tlt hc16).2.1 <| ?_
    exact Runs.iconst d28_21 ci_1 <| Runs.istoreN (P' := [vr a, vi i1, vi (gA ob 1 i1), vi (1 : Int32), vn, vn]) d28_22 (by decide) rfl <| Runs.iloadN d28_23 rfl <| Runs.istore (P' := [vr a, vi i1, vi (gA ob 1 i1), vi (1 : Int32), vi (1 : Int32), vn]) d28_24 (by decide) rfl <| Runs.forget [true, true, true, false, true, false] rfl <| X_emitTransaction_l26_p NF ob i1 (gA ob 1 i1) (1 : Int32) hf
  · refine Runs.icY (pc' := 23) d28_18 (flt hc16).2.1 (by decide) <| ?_
    exact Runs.iloadN d28_23 rfl <| Runs.istore (P' := [vr a, vi i1, vi (gA ob 1 i1), vi ((gA ob 4 i1) + (1 : Int32)), vi ((gA ob 4 i1) + (1 : Int32)), vn]) d28_24 (by decide) rfl <| Runs.forget [true, true, true, false, true, false] rfl <| X_emitTransaction_l26_p NF ob i1 (gA ob 1 i1) ((gA ob 4 i1) + (1 : Int32)) hf
theorem X_emitTransaction_pay {C : Ctx} {top : Nat} {a : Nat} {H : List (Nat × Nat × Rec)} {res : Rec} {NF : Nat} {ob : Rec} {i1 : Int32} (hf : X_emitTransaction NF ob i1 = some res) : Pays C B28 [.ref a, .int i1] (top, (a, 17, ob) :: H) (Ans none (top, (a, 17, res) :: H)) :=
  Pays.of pnK (Nat.le_of_ble_eq_true rfl) (P := [vr a, vi i1, vn, vn, vn, vn]) 4 rfl (X_emitTransaction_p ob i1 hf)
def X_stream_w10 (NF : Nat) (k10 : Rec → Int32 → Int32 → Int32 → Option (Int32 × Rec)) (ob : Rec) (i1 : Int32) (i2 : Int32) (i3 : Int32) : Option (Int32 × Rec) :=
  if i3 < (129 : Int32) then
    if i2 < i1 then
      (X_nextCommit NF ob (gI ob 5)).bind fun r3 =>
      if r3 = (0 : Int32) then
        some (i2, ob)
      else
        (X_emitTransaction NF ob r3).bind fun q6 =>
        k10 (sI q6 5 r3) i1 (i2 + (1 : Int32)) (i3 + (1 : Int32))
    else
      some (i2, ob)
  else
    some (i2, ob)
def X_stream_l10 (NF : Nat) : Nat → Rec → Int32 → Int32 → Int32 → Option (Int32 × Rec)
  | 0, _, _, _, _ => none
  | n + 1, ob, i1, i2, i3 => X_stream_w10 NF (X_stream_l10 NF n) ob i1 i2 i3
set_option maxRecDepth 65536 in
set_option maxHeartbeats 4000000 in
theorem X_stream_w10_p {C : Ctx} {top : Nat} {a : Nat} {H : List (Nat × Nat × Rec)} {res : Int32 × Rec} {NF : Nat} (k10 : Rec → Int32 → Int32 → Int32 → Option (Int32 × Rec)) (hk10 : ∀ (ob : Rec) (i1 : Int32) (i2 : Int32) (i3 : Int32), k10 ob i1 i2 i3 = some res → Runs C B16 0 0 10 [vr a, vi i1, vi i2, vi i3, vn] [] (top, (a, 17, ob) :: H) (Ans (some (.int res.1)) (top, (a, 17, res.2) :: H))) (ob : Rec) (i1 : Int32) (i2 : Int32) (i3 : Int32) (hf : X_stream_w10 NF k10 ob i1 i2 i3 = some res) : Runs C B16 0 0 10 [vr a, vi i1, vi i2, vi i3, vn] [] (top, (a, 17, ob) :: H) (Ans (some (.int res.1)) (top, (a, 17, res.2) :: H)) := by
  delta X_stream_w10 at hf
  refine Runs.iloadN d16_10 rfl <| Runs.sipush d16_11 cs_129 <| ?_
  refine ite_el hf (fun hc1 hf => ?_) (fun hc1 hf => ?_)
  · refine Runs.icN d16_14 (tlt hc1).2.1 <| ?_
    refine Runs.iloadN d16_17 rfl <| Runs.iloadN d16_18 rfl <| ?_
    refine ite_el hf (fun hc2 hf => ?_) (fun hc2 hf => ?_)
    · refine Runs.icN d16_19 (tlt hc2).2.1 <| ?_
      refine Runs.aloadN d16_22 rfl <| Runs.aloadN d16_23 rfl <| Runs.getI d16_24 w59 fS_5 <| ?_
      refine bind_el hf fun r3 hg4 hf => ?_
      refine Runs.callP (N := B17) (W := 0) (as := [.int (gI ob 5)]) (S' := []) d16_27 w131 w132 w133 rfl cw17 ar17 rk16_17_0 (by decide) rfl rfl (X_nextCommit_pay hg4) <| ans1 <| Runs.istore (P' := [vr a, vi i1, vi i2, vi i3, vi r3]) d16_30 (by decide) rfl <| Runs.iload d16_32 rfl <| ?_
      refine ite_el hf (fun hc5 hf => ?_) (fun hc5 hf => ?_)
      · refine Runs.ifN d16_34 (teq hc5).2 <| ?_
        obtain rfl := Option.some.inj hf
        exact Runs.goto (pc' := 61) d16_37 (by decide) <| Runs.iloadN d16_61 rfl <| Runs.retI d16_62 rfl ⟨by decide, by decide⟩ ⟨rfl, rfl⟩
      · refine Runs.ifY (pc' := 40) d16_34 (feq hc5).2 (by decide) <| ?_
        refine Runs.aloadN d16_40 rfl <| Runs.iload d16_41 rfl <| ?_
        refine bind_el hf fun q6 hg7 hf => ?_
        exact Runs.callP (N := B28) (W := 0) (as := [.int r3]) (S' := []) d16_43 w182 w183 w184 rfl cw28 ar28 rk16_28_0 (by decide) rfl rfl (X_emitTransaction_pay hg7) <| ans0 <| Runs.aloadN d16_46 rfl <| Runs.iload d16_47 rfl <| Runs.putI d16_49 w59 fS_5 (Or.inl w60) <| Runs.iinc (P' := [vr a, vi i1, vi (i2 + (1 : Int32)), vi i3, vi r3]) d16_52 ci_1 rfl (by decide) rfl <| Runs.iinc (P' := [vr a, vi i1, vi (i2 + (1 : Int32)), vi (i3 + (1 : Int32)), vi r3]) d16_55 ci_1 rfl (by decide) rfl <| Runs.goto (pc' := 10) d16_58 (by decide) <| Runs.forget [true, true, true, true, false] rfl <| hk10 (sI q6 5 r3) i1 (i2 + (1 : Int32)) (i3 + (1 : Int32)) hf
    · refine Runs.icY (pc' := 61) d16_19 (flt hc2).2.1 (by decide) <| ?_
      obtain rfl := Option.some.inj hf
      exact Runs.iloadN d16_61 rfl <| Runs.retI d16_62 rfl ⟨by decide, by decide⟩ ⟨rfl, rfl⟩
  · refine Runs.icY (pc' := 61) d16_14 (flt hc1).2.1 (by decide) <| ?_
    obtain rfl := Option.some.inj hf
    exact Runs.iloadN d16_61 rfl <| Runs.retI d16_62 rfl ⟨by decide, by decide⟩ ⟨rfl, rfl⟩
theorem X_stream_l10_p {C : Ctx} {top : Nat} {a : Nat} {H : List (Nat × Nat × Rec)} {res : Int32 × Rec} {NF : Nat} (n : Nat) (ob : Rec) (i1 : Int32) (i2 : Int32) (i3 : Int32) (hf : X_stream_l10 NF n ob i1 i2 i3 = some res) : Runs C B16 0 0 10 [vr a, vi i1, vi i2, vi i3, vn] [] (top, (a, 17, ob) :: H) (Ans (some (.int res.1)) (top, (a, 17, res.2) :: H)) := by
  induction n generalizing ob i1 i2 i3 with
  | zero => cases (show (none : Option (Int32 × Rec)) = some res from hf)
  | succ n ih => exact X_stream_w10_p (X_stream_l10 NF n) (fun ob i1 i2 i3 h => ih _ _ _ _ h) ob i1 i2 i3 hf
def X_stream (NF : Nat) (ob : Rec) (i1 : Int32) : Option (Int32 × Rec) :=
  if (0 : Int32) < i1 then
    X_stream_l10 NF NF ob i1 (0 : Int32) (0 : Int32)
  else
    some ((0 : Int32), ob)
set_option maxRecDepth 65536 in
set_option maxHeartbeats 4000000 in
theorem X_stream_p {C : Ctx} {top : Nat} {a : Nat} {H : List (Nat × Nat × Rec)} {res : Int32 × Rec} {NF : Nat} (ob : Rec) (i1 : Int32) (hf : X_stream NF ob i1 = some res) : Runs C B16 0 0 0 [vr a, vi i1, vn, vn, vn] [] (top, (a, 17, ob) :: H) (Ans (some (.int res.1)) (top, (a, 17, res.2) :: H)) := by
  delta X_stream at hf
  refine Runs.iloadN d16_0 rfl <| ?_
  refine ite_el hf (fun hc8 hf => ?_) (fun hc8 hf => ?_)
  · refine Runs.ifY (pc' := 6) d16_1 (tlt hc8).2.2.1 (by decide) <| ?_
    exact Runs.iconst d16_6 ci_0 <| Runs.istoreN (P' := [vr a, vi i1, vi (0 : Int32), vn, vn]) d16_7 (by decide) rfl <| Runs.iconst d16_8 ci_0 <| Runs.istoreN (P' := [vr a, vi i1, vi (0 : Int32), vi (0 : Int32), vn]) d16_9 (by decide) rfl <| X_stream_l10_p NF ob i1 (0 : Int32) (0 : Int32) hf
  · refine Runs.ifN d16_1 (flt hc8).2.2.1 <| ?_
    obtain rfl := Option.some.inj hf
    exact Runs.iconst d16_4 ci_0 <| Runs.retI d16_5 rfl ⟨by decide, by decide⟩ ⟨rfl, rfl⟩
theorem X_stream_pay {C : Ctx} {top : Nat} {a : Nat} {H : List (Nat × Nat × Rec)} {res : Int32 × Rec} {NF : Nat} {ob : Rec} {i1 : Int32} (hf : X_stream NF ob i1 = some res) : Pays C B16 [.ref a, .int i1] (top, (a, 17, ob) :: H) (Ans (some (.int res.1)) (top, (a, 17, res.2) :: H)) :=
  Pays.of pnK (Nat.le_of_ble_eq_true rfl) (P := [vr a, vi i1, vn, vn, vn]) 3 rfl (X_stream_p ob i1 hf)
def X_applyPending_w2 (NF : Nat) (k2 : Rec → Int32 → Option (Rec)) (ob : Rec) (i1 : Int32) : Option (Rec) :=
  if i1 < (gI ob 0) then
    if i1 < (32 : Int32) then
      chk (32 : Int32) i1 <|
      if (gA ob 11 i1) = (1 : Int32) then
        chk (32 : Int32) i1 <|
        chk (32 : Int32) i1 <|
        chk (32 : Int32) i1 <|
        chk (32 : Int32) i1 <|
        chk (32 : Int32) i1 <|
        k2 (sA (sA (sA (sA ob 9 i1 (1 : Int32)) 10 i1 (gA ob 12 i1)) 11 i1 (0 : Int32)) 12 i1 (0 : Int32)) (i1 + (1 : Int32))
      else
        chk (32 : Int32) i1 <|
        if (gA ob 11 i1) = (2 : Int32) then
          chk (32 : Int32) i1 <|
          chk (32 : Int32) i1 <|
          chk (32 : Int32) i1 <|
          k2 (sA (sA (sA ob 9 i1 (0 : Int32)) 11 i1 (0 : Int32)) 12 i1 (0 : Int32)) (i1 + (1 : Int32))
        else
          chk (32 : Int32) i1 <|
          chk (32 : Int32) i1 <|
          k2 (sA (sA ob 11 i1 (0 : Int32)) 12 i1 (0 : Int32)) (i1 + (1 : Int32))
    else
      some ob
  else
    some ob
def X_applyPending_l2 (NF : Nat) : Nat → Rec → Int32 → Option (Rec)
  | 0, _, _ => none
  | n + 1, ob, i1 => X_applyPending_w2 NF (X_applyPending_l2 NF n) ob i1
set_option maxRecDepth 65536 in
set_option maxHeartbeats 4000000 in
theorem X_applyPending_w2_p {C : Ctx} {top : Nat} {a : Nat} {H : List (Nat × Nat × Rec)} {res : Rec} {NF : Nat} (k2 : Rec → Int32 → Option (Rec)) (hk2 : ∀ (ob : Rec) (i1 : Int32), k2 ob i1 = some res → Runs C B31 0 0 2 [vr a, vi i1] [] (top, (a, 17, ob) :: H) (Ans none (top, (a, 17, res) :: H))) (ob : Rec) (i1 : Int32) (hf : X_applyPending_w2 NF k2 ob i1 = some res) : Runs C B31 0 0 2 [vr a, vi i1] [] (top, (a, 17, ob) :: H) (Ans none (top, (a, 17, res) :: H)) := by
  delta X_applyPending_w2 at hf
  refine Runs.iloadN d31_2 rfl <| Runs.aloadN d31_3 rfl <| Runs.getI d31_4 w49 fS_0 <| ?_
  refine ite_el hf (fun hc1 hf => ?_) (fun hc1 hf => ?_)
  · refine Runs.icN d31_7 (tlt hc1).2.1 <| ?_
    refine Runs.iloadN d31_10 rfl <| Runs.bipush d31_11 cb_32 <| ?_
    refine ite_el hf (fun hc2 hf => ?_) (fun hc2 hf => ?_)
    · refine Runs.icN d31_13 (tlt hc2).2.1 <| ?_
      refine Runs.aloadN d31_16 rfl <| Runs.getA d31_17 fA_11 w33 (by decide) <| Runs.iloadN d31_20 rfl <| ?_
      refine chk_el hf fun hi3 hf => ?_
      refine Runs.ialoadA d31_21 fA_11 (by decide) hi3 <| Runs.iconst d31_22 ci_1 <| ?_
      refine ite_el hf (fun hc4 hf => ?_) (fun hc4 hf => ?_)
      · refine Runs.icN d31_23 (teq hc4).2 <| ?_
        refine Runs.aloadN d31_26 rfl <| Runs.getA d31_27 fA_9 w29 (by decide) <| Runs.iloadN d31_30 rfl <| Runs.iconst d31_31 ci_1 <| ?_
        refine chk_el hf fun hi5 hf => ?_
        refine Runs.bastoreA (y := (1 : Int32)) d31_32 fA_9 (by decide) hi5 rfl <| Runs.aloadN d31_33 rfl <| Runs.getA d31_34 fA_10 w31 (by decide) <| Runs.iloadN d31_37 rfl <| Runs.aloadN d31_38 rfl <| Runs.getA d31_39 fA_12 w35 (by decide) <| Runs.iloadN d31_42 rfl <| ?_
        refine chk_el hf fun hi6 hf => ?_
        refine Runs.ialoadA d31_43 fA_12 (by decide) hi6 <| ?_
        refine chk_el hf fun hi7 hf => ?_
        refine Runs.iastoreA d31_44 fA_10 (by decide) hi7 <| Runs.goto (pc' := 65) d31_45 (by decide) <| Runs.aloadN d31_65 rfl <| Runs.getA d31_66 fA_11 w33 (by decide) <| Runs.iloadN d31_69 rfl <| Runs.iconst d31_70 ci_0 <| ?_
        refine chk_el hf fun hi8 hf => ?_
        refine Runs.iastoreA d31_71 fA_11 (by decide) hi8 <| Runs.aloadN d31_72 rfl <| Runs.getA d31_73 fA_12 w35 (by decide) <| Runs.iloadN d31_76 rfl <| Runs.iconst d31_77 ci_0 <| ?_
        refine chk_el hf fun hi9 hf => ?_
        exact Runs.iastoreA d31_78 fA_12 (by decide) hi9 <| Runs.iinc (P' := [vr a, vi (i1 + (1 : Int32))]) d31_79 ci_1 rfl (by decide) rfl <| Runs.goto (pc' := 2) d31_82 (by decide) <| hk2 (sA (sA (sA (sA ob 9 i1 (1 : Int32)) 10 i1 (gA ob 12 i1)) 11 i1 (0 : Int32)) 12 i1 (0 : Int32)) (i1 + (1 : Int32)) hf
      · refine Runs.icY (pc' := 48) d31_23 (feq hc4).2 (by decide) <| ?_
        refine Runs.aloadN d31_48 rfl <| Runs.getA d31_49 fA_11 w33 (by decide) <| Runs.iloadN d31_52 rfl <| ?_
        refine chk_el hf fun hi10 hf => ?_
        refine Runs.ialoadA d31_53 fA_11 (by decide) hi10 <| Runs.iconst d31_54 ci_2 <| ?_
        refine ite_el hf (fun hc11 hf => ?_) (fun hc11 hf => ?_)
        · refine Runs.icN d31_55 (teq hc11).2 <| ?_
          refine Runs.aloadN d31_58 rfl <| Runs.getA d31_59 fA_9 w29 (by decide) <| Runs.iloadN d31_62 rfl <| Runs.iconst d31_63 ci_0 <| ?_
          refine chk_el hf fun hi12 hf => ?_
          refine Runs.bastoreA (y := (0 : Int32)) d31_64 fA_9 (by decide) hi12 rfl <| Runs.aloadN d31_65 rfl <| Runs.getA d31_66 fA_11 w33 (by decide) <| Runs.iloadN d31_69 rfl <| Runs.iconst d31_70 ci_0 <| ?_
          refine chk_el hf fun hi13 hf => ?_
          refine Runs.iastoreA d31_71 fA_11 (by decide) hi13 <| Runs.aloadN d31_72 rfl <| Runs.getA d31_73 fA_12 w35 (by decide) <| Runs.iloadN d31_76 rfl <| Runs.iconst d31_77 ci_0 <| ?_
          refine chk_el hf fun hi14 hf => ?_
          exact Runs.iastoreA d31_78 fA_12 (by decide) hi14 <| Runs.iinc (P' := [vr a, vi (i1 + (1 : Int32))]) d31_79 ci_1 rfl (by decide) rfl <| Runs.goto (pc' := 2) d31_82 (by decide) <| hk2 (sA (sA (sA ob 9 i1 (0 : Int32)) 11 i1 (0 : Int32)) 12 i1 (0 : Int32)) (i1 + (1 : Int32)) hf
        · refine Runs.icY (pc' := 65) d31_55 (feq hc11).2 (by decide) <| ?_
          refine Runs.aloadN d31_65 rfl <| Runs.getA d31_66 fA_11 w33 (by decide) <| Runs.iloadN d31_69 rfl <| Runs.iconst d31_70 ci_0 <| ?_
          refine chk_el hf fun hi15 hf => ?_
          refine Runs.iastoreA d31_71 fA_11 (by decide) hi15 <| Runs.aloadN d31_72 rfl <| Runs.getA d31_73 fA_12 w35 (by decide) <| Runs.iloadN d31_76 rfl <| Runs.iconst d31_77 ci_0 <| ?_
          refine chk_el hf fun hi16 hf => ?_
          exact Runs.iastoreA d31_78 fA_12 (by decide) hi16 <| Runs.iinc (P' := [vr a, vi (i1 + (1 : Int32))]) d31_79 ci_1 rfl (by decide) rfl <| Runs.goto (pc' := 2) d31_82 (by decide) <| hk2 (sA (sA ob 11 i1 (0 : Int32)) 12 i1 (0 : Int32)) (i1 + (1 : Int32)) hf
    · refine Runs.icY (pc' := 85) d31_13 (flt hc2).2.1 (by decide) <| ?_
      obtain rfl := Option.some.inj hf
      exact Runs.retV d31_85 rfl ⟨by decide, by decide⟩ ⟨rfl, rfl⟩
  · refine Runs.icY (pc' := 85) d31_7 (flt hc1).2.1 (by decide) <| ?_
    obtain rfl := Option.some.inj hf
    exact Runs.retV d31_85 rfl ⟨by decide, by decide⟩ ⟨rfl, rfl⟩
theorem X_applyPending_l2_p {C : Ctx} {top : Nat} {a : Nat} {H : List (Nat × Nat × Rec)} {res : Rec} {NF : Nat} (n : Nat) (ob : Rec) (i1 : Int32) (hf : X_applyPending_l2 NF n ob i1 = some res) : Runs C B31 0 0 2 [vr a, vi i1] [] (top, (a, 17, ob) :: H) (Ans none (top, (a, 17, res) :: H)) := by
  induction n generalizing ob i1 with
  | zero => cases (show (none : Option (Rec)) = some res from hf)
  | succ n ih => exact X_applyPending_w2_p (X_applyPending_l2 NF n) (fun ob i1 h => ih _ _ h) ob i1 hf
def X_applyPending (NF : Nat) (ob : Rec) : Option (Rec) :=
  X_applyPending_l2 NF NF ob (0 : Int32)
set_option maxRecDepth 65536 in
set_option maxHeartbeats 4000000 in
theorem X_applyPending_p {C : Ctx} {top : Nat} {a : Nat} {H : List (Nat × Nat × Rec)} {res : Rec} {NF : Nat} (ob : Rec) (hf : X_applyPending NF ob = some res) : Runs C B31 0 0 0 [vr a, vn] [] (top, (a, 17, ob) :: H) (Ans none (top, (a, 17, res) :: H)) := by
  delta X_applyPending at hf
  exact Runs.iconst d31_0 ci_0 <| Runs.istoreN (P' := [vr a, vi (0 : Int32)]) d31_1 (by decide) rfl <| X_applyPending_l2_p NF ob (0 : Int32) hf
theorem X_applyPending_pay {C : Ctx} {top : Nat} {a : Nat} {H : List (Nat × Nat × Rec)} {res : Rec} {NF : Nat} {ob : Rec} (hf : X_applyPending NF ob = some res) : Pays C B31 [.ref a] (top, (a, 17, ob) :: H) (Ans none (top, (a, 17, res) :: H)) :=
  Pays.of pnK (Nat.le_of_ble_eq_true rfl) (P := [vr a, vn]) 1 rfl (X_applyPending_p ob hf)
def X_handleHead_b18 (NF : Nat) (ob : Rec) (i1 : Int32) : Option (Rec) :=
  chk (128 : Int32) i1 <|
  chk (128 : Int32) i1 <|
  chk (128 : Int32) i1 <|
  chk (128 : Int32) i1 <|
  if (gI ob 6) < (gA ob 16 i1) then
    if (gA ob 13 i1) = (4 : Int32) then
      (X_applyPending NF (sI (sI ob 8 ((i1 + (1 : Int32)) % (128 : Int32))) 9 ((gI ob 9) - (1 : Int32)))).bind fun q7 =>
      some (sI q7 6 (gA ob 16 i1))
    else
      if (gA ob 14 i1) < (0 : Int32) then
        some (sI (sI ob 8 ((i1 + (1 : Int32)) % (128 : Int32))) 9 ((gI ob 9) - (1 : Int32)))
      else
        if (gA ob 14 i1) < (32 : Int32) then
          if (gA ob 13 i1) = (2 : Int32) then
            chk (32 : Int32) (gA ob 14 i1) <|
            chk (32 : Int32) (gA ob 14 i1) <|
            some (sA (sA (sI (sI ob 8 ((i1 + (1 : Int32)) % (128 : Int32))) 9 ((gI ob 9) - (1 : Int32))) 11 (gA ob 14 i1) (1 : Int32)) 12 (gA ob 14 i1) (gA ob 15 i1))
          else
            if (gA ob 13 i1) = (3 : Int32) then
              chk (32 : Int32) (gA ob 14 i1) <|
              chk (32 : Int32) (gA ob 14 i1) <|
              some (sA (sA (sI (sI ob 8 ((i1 + (1 : Int32)) % (128 : Int32))) 9 ((gI ob 9) - (1 : Int32))) 11 (gA ob 14 i1) (2 : Int32)) 12 (gA ob 14 i1) (0 : Int32))
            else
              some (sI (sI ob 8 ((i1 + (1 : Int32)) % (128 : Int32))) 9 ((gI ob 9) - (1 : Int32)))
        else
          some (sI (sI ob 8 ((i1 + (1 : Int32)) % (128 : Int32))) 9 ((gI ob 9) - (1 : Int32)))
  else
    some (sI (sI ob 8 ((i1 + (1 : Int32)) % (128 : Int32))) 9 ((gI ob 9) - (1 : Int32)))
set_option maxRecDepth 65536 in
set_option maxHeartbeats 4000000 in
theorem X_handleHead_b18_p {C : Ctx} {top : Nat} {a : Nat} {H : List (Nat × Nat × Rec)} {res : Rec} {NF : Nat} (ob : Rec) (i1 : Int32) (hf : X_handleHead_b18 NF ob i1 = some res) : Runs C B30 0 0 18 [vr a, vi i1, vn, vn, vn, vn] [] (top, (a, 17, ob) :: H) (Ans none (top, (a, 17, res) :: H)) := by
  delta X_handleHead_b18 at hf
  refine Runs.aloadN d30_18 rfl <| Runs.getA d30_19 fA_13 w37 (by decide) <| Runs.iloadN d30_22 rfl <| ?_
  refine chk_el hf fun hi1 hf => ?_
  refine Runs.ialoadA d30_23 fA_13 (by decide) hi1 <| Runs.istoreN (P' := [vr a, vi i1, vi (gA ob 13 i1), vn, vn, vn]) d30_24 (by decide) rfl <| Runs.aloadN d30_25 rfl <| Runs.getA d30_26 fA_14 w39 (by decide) <| Runs.iloadN d30_29 rfl <| ?_
  refine chk_el hf fun hi2 hf => ?_
  refine Runs.ialoadA d30_30 fA_14 (by decide) hi2 <| Runs.istoreN (P' := [vr a, vi i1, vi (gA ob 13 i1), vi (gA ob 14 i1), vn, vn]) d30_31 (by decide) rfl <| Runs.aloadN d30_32 rfl <| Runs.getA d30_33 fA_15 w41 (by decide) <| Runs.iloadN d30_36 rfl <| ?_
  refine chk_el hf fun hi3 hf => ?_
  refine Runs.ialoadA d30_37 fA_15 (by decide) hi3 <| Runs.istore (P' := [vr a, vi i1, vi (gA ob 13 i1), vi (gA ob 14 i1), vi (gA ob 15 i1), vn]) d30_38 (by decide) rfl <| Runs.aloadN d30_40 rfl <| Runs.getA d30_41 fA_16 w43 (by decide) <| Runs.iloadN d30_44 rfl <| ?_
  refine chk_el hf fun hi4 hf => ?_
  refine Runs.ialoadA d30_45 fA_16 (by decide) hi4 <| Runs.istore (P' := [vr a, vi i1, vi (gA ob 13 i1), vi (gA ob 14 i1), vi (gA ob 15 i1), vi (gA ob 16 i1)]) d30_46 (by decide) rfl <| Runs.aloadN d30_48 rfl <| Runs.iloadN d30_49 rfl <| Runs.iconst d30_50 ci_1 <| Runs.iadd d30_51 <| Runs.sipush d30_52 cs_128 <| Runs.irem d30_55 (by decide) <| Runs.putI d30_56 w65 fS_8 (Or.inl w66) <| Runs.aloadN d30_59 rfl <| Runs.dup d30_60 rfl <| Runs.getI d30_61 w67 fS_9 <| ?_
  refine Runs.iconst d30_64 ci_1 <| Runs.isub d30_65 <| Runs.putI d30_66 w67 fS_9 (Or.inl w68) <| Runs.iload d30_69 rfl <| Runs.aloadN d30_71 rfl <| Runs.getI d30_72 w61 fS_6 <| ?_
  refine ite_el hf (fun hc5 hf => ?_) (fun hc5 hf => ?_)
  · refine Runs.icY (pc' := 79) d30_75 (tlt hc5).2.2.1 (by decide) <| ?_
    refine Runs.iloadN d30_79 rfl <| Runs.iconst d30_80 ci_4 <| ?_
    refine ite_el hf (fun hc6 hf => ?_) (fun hc6 hf => ?_)
    · refine Runs.icN d30_81 (teq hc6).2 <| ?_
      refine Runs.aloadN d30_84 rfl <| ?_
      refine bind_el hf fun q7 hg8 hf => ?_
      obtain rfl := Option.some.inj hf
      exact Runs.callP (N := B31) (W := 0) (as := []) (S' := []) d30_85 w194 w195 w196 rfl cw31 ar31 rk30_31_0 (by decide) rfl rfl (X_applyPending_pay hg8) <| ans0 <| Runs.aloadN d30_88 rfl <| Runs.iload d30_89 rfl <| Runs.putI d30_91 w61 fS_6 (Or.inl w62) <| Runs.retV d30_94 rfl ⟨by decide, by decide⟩ ⟨rfl, rfl⟩
    · refine Runs.icY (pc' := 95) d30_81 (feq hc6).2 (by decide) <| ?_
      refine Runs.iloadN d30_95 rfl <| ?_
      refine ite_el hf (fun hc9 hf => ?_) (fun hc9 hf => ?_)
      · refine Runs.ifY (pc' := 105) d30_96 (tlt hc9).1 (by decide) <| ?_
        obtain rfl := Option.some.inj hf
        exact Runs.retV d30_105 rfl ⟨by decide, by decide⟩ ⟨rfl, rfl⟩
      · refine Runs.ifN d30_96 (flt hc9).1 <| ?_
        refine Runs.iloadN d30_99 rfl <| Runs.bipush d30_100 cb_32 <| ?_
        refine ite_el hf (fun hc10 hf => ?_) (fun hc10 hf => ?_)
        · refine Runs.icY (pc' := 106) d30_102 (tlt hc10).1 (by decide) <| ?_
          refine Runs.iloadN d30_106 rfl <| Runs.iconst d30_107 ci_2 <| ?_
          refine ite_el hf (fun hc11 hf => ?_) (fun hc11 hf => ?_)
          · refine Runs.icN d30_108 (teq hc11).2 <| ?_
            refine Runs.aloadN d30_111 rfl <| Runs.getA d30_112 fA_11 w33 (by decide) <| Runs.iloadN d30_115 rfl <| Runs.iconst d30_116 ci_1 <| ?_
            refine chk_el hf fun hi12 hf => ?_
            refine Runs.iastoreA d30_117 fA_11 (by decide) hi12 <| Runs.aloadN d30_118 rfl <| Runs.getA d30_119 fA_12 w35 (by decide) <| Runs.iloadN d30_122 rfl <| Runs.iload d30_123 rfl <| ?_
            refine chk_el hf fun hi13 hf => ?_
            obtain rfl := Option.some.inj hf
            exact Runs.iastoreA d30_125 fA_12 (by decide) hi13 <| Runs.goto (pc' := 148) d30_126 (by decide) <| Runs.retV d30_148 rfl ⟨by decide, by decide⟩ ⟨rfl, rfl⟩
          · refine Runs.icY (pc' := 129) d30_108 (feq hc11).2 (by decide) <| ?_
            refine Runs.iloadN d30_129 rfl <| Runs.iconst d30_130 ci_3 <| ?_
            refine ite_el hf (fun hc14 hf => ?_) (fun hc14 hf => ?_)
            · refine Runs.icN d30_131 (teq hc14).2 <| ?_
              refine Runs.aloadN d30_134 rfl <| Runs.getA d30_135 fA_11 w33 (by decide) <| Runs.iloadN d30_138 rfl <| Runs.iconst d30_139 ci_2 <| ?_
              refine chk_el hf fun hi15 hf => ?_
              refine Runs.iastoreA d30_140 fA_11 (by decide) hi15 <| Runs.aloadN d30_141 rfl <| Runs.getA d30_142 fA_12 w35 (by decide) <| Runs.iloadN d30_145 rfl <| Runs.iconst d30_146 ci_0 <| ?_
              refine chk_el hf fun hi16 hf => ?_
              obtain rfl := Option.some.inj hf
              exact Runs.iastoreA d30_147 fA_12 (by decide) hi16 <| Runs.retV d30_148 rfl ⟨by decide, by decide⟩ ⟨rfl, rfl⟩
            · refine Runs.icY (pc' := 148) d30_131 (feq hc14).2 (by decide) <| ?_
              obtain rfl := Option.some.inj hf
              exact Runs.retV d30_148 rfl ⟨by decide, by decide⟩ ⟨rfl, rfl⟩
        · refine Runs.icN d30_102 (flt hc10).1 <| ?_
          obtain rfl := Option.some.inj hf
          exact Runs.retV d30_105 rfl ⟨by decide, by decide⟩ ⟨rfl, rfl⟩
  · refine Runs.icN d30_75 (flt hc5).2.2.1 <| ?_
    obtain rfl := Option.some.inj hf
    exact Runs.retV d30_78 rfl ⟨by decide, by decide⟩ ⟨rfl, rfl⟩
def X_handleHead (NF : Nat) (ob : Rec) : Option (Rec) :=
  if (gI ob 8) < (0 : Int32) then
    X_handleHead_b18 NF ob (0 : Int32)
  else
    if (gI ob 8) < (128 : Int32) then
      X_handleHead_b18 NF ob (gI ob 8)
    else
      X_handleHead_b18 NF ob (0 : Int32)
set_option maxRecDepth 65536 in
set_option maxHeartbeats 4000000 in
theorem X_handleHead_p {C : Ctx} {top : Nat} {a : Nat} {H : List (Nat × Nat × Rec)} {res : Rec} {NF : Nat} (ob : Rec) (hf : X_handleHead NF ob = some res) : Runs C B30 0 0 0 [vr a, vn, vn, vn, vn, vn] [] (top, (a, 17, ob) :: H) (Ans none (top, (a, 17, res) :: H)) := by
  delta X_handleHead at hf
  refine Runs.aloadN d30_0 rfl <| Runs.getI d30_1 w65 fS_8 <| Runs.istoreN (P' := [vr a, vi (gI ob 8), vn, vn, vn, vn]) d30_4 (by decide) rfl <| Runs.iloadN d30_5 rfl <| ?_
  refine ite_el hf (fun hc17 hf => ?_) (fun hc17 hf => ?_)
  · refine Runs.ifY (pc' := 16) d30_6 (tlt hc17).1 (by decide) <| ?_
    exact Runs.iconst d30_16 ci_0 <| Runs.istoreN (P' := [vr a, vi (0 : Int32), vn, vn, vn, vn]) d30_17 (by decide) rfl <| X_handleHead_b18_p ob (0 : Int32) hf
  · refine Runs.ifN d30_6 (flt hc17).1 <| ?_
    refine Runs.iloadN d30_9 rfl <| Runs.sipush d30_10 cs_128 <| ?_
    refine ite_el hf (fun hc18 hf => ?_) (fun hc18 hf => ?_)
    · exact Runs.icY (pc' := 18) d30_13 (tlt hc18).1 (by decide) <| X_handleHead_b18_p ob (gI ob 8) hf
    · refine Runs.icN d30_13 (flt hc18).1 <| ?_
      exact Runs.iconst d30_16 ci_0 <| Runs.istoreN (P' := [vr a, vi (0 : Int32), vn, vn, vn, vn]) d30_17 (by decide) rfl <| X_handleHead_b18_p ob (0 : Int32) hf
theorem X_handleHead_pay {C : Ctx} {top : Nat} {a : Nat} {H : List (Nat × Nat × Rec)} {res : Rec} {NF : Nat} {ob : Rec} (hf : X_handleHead NF ob = some res) : Pays C B30 [.ref a] (top, (a, 17, ob) :: H) (Ans none (top, (a, 17, res) :: H)) :=
  Pays.of pnK (Nat.le_of_ble_eq_true rfl) (P := [vr a, vn, vn, vn, vn, vn]) 5 rfl (X_handleHead_p ob hf)
def X_apply_w10 (NF : Nat) (k10 : Rec → Int32 → Int32 → Int32 → Option (Int32 × Rec)) (ob : Rec) (i1 : Int32) (i2 : Int32) (i3 : Int32) : Option (Int32 × Rec) :=
  if (128 : Int32) < i3 then
    some (i2, ob)
  else
    if i2 < i1 then
      if (0 : Int32) < (gI ob 9) then
        (X_handleHead NF ob).bind fun q4 =>
        k10 q4 i1 (i2 + (1 : Int32)) (i3 + (1 : Int32))
      else
        some (i2, ob)
    else
      some (i2, ob)
def X_apply_l10 (NF : Nat) : Nat → Rec → Int32 → Int32 → Int32 → Option (Int32 × Rec)
  | 0, _, _, _, _ => none
  | n + 1, ob, i1, i2, i3 => X_apply_w10 NF (X_apply_l10 NF n) ob i1 i2 i3
set_option maxRecDepth 65536 in
set_option maxHeartbeats 4000000 in
theorem X_apply_w10_p {C : Ctx} {top : Nat} {a : Nat} {H : List (Nat × Nat × Rec)} {res : Int32 × Rec} {NF : Nat} (k10 : Rec → Int32 → Int32 → Int32 → Option (Int32 × Rec)) (hk10 : ∀ (ob : Rec) (i1 : Int32) (i2 : Int32) (i3 : Int32), k10 ob i1 i2 i3 = some res → Runs C B24 0 0 10 [vr a, vi i1, vi i2, vi i3] [] (top, (a, 17, ob) :: H) (Ans (some (.int res.1)) (top, (a, 17, res.2) :: H))) (ob : Rec) (i1 : Int32) (i2 : Int32) (i3 : Int32) (hf : X_apply_w10 NF k10 ob i1 i2 i3 = some res) : Runs C B24 0 0 10 [vr a, vi i1, vi i2, vi i3] [] (top, (a, 17, ob) :: H) (Ans (some (.int res.1)) (top, (a, 17, res.2) :: H)) := by
  delta X_apply_w10 at hf
  refine Runs.iloadN d24_10 rfl <| Runs.sipush d24_11 cs_128 <| ?_
  refine ite_el hf (fun hc1 hf => ?_) (fun hc1 hf => ?_)
  · refine Runs.icY (pc' := 42) d24_14 (tlt hc1).2.2.1 (by decide) <| ?_
    obtain rfl := Option.some.inj hf
    exact Runs.iloadN d24_42 rfl <| Runs.retI d24_43 rfl ⟨by decide, by decide⟩ ⟨rfl, rfl⟩
  · refine Runs.icN d24_14 (flt hc1).2.2.1 <| ?_
    refine Runs.iloadN d24_17 rfl <| Runs.iloadN d24_18 rfl <| ?_
    refine ite_el hf (fun hc2 hf => ?_) (fun hc2 hf => ?_)
    · refine Runs.icN d24_19 (tlt hc2).2.1 <| ?_
      refine Runs.aloadN d24_22 rfl <| Runs.getI d24_23 w67 fS_9 <| ?_
      refine ite_el hf (fun hc3 hf => ?_) (fun hc3 hf => ?_)
      · refine Runs.ifN d24_26 (tlt hc3).2.2.2 <| ?_
        refine Runs.aloadN d24_29 rfl <| ?_
        refine bind_el hf fun q4 hg5 hf => ?_
        exact Runs.callP (N := B30) (W := 0) (as := []) (S' := []) d24_30 w190 w191 w192 rfl cw30 ar30 rk24_30_0 (by decide) rfl rfl (X_handleHead_pay hg5) <| ans0 <| Runs.iinc (P' := [vr a, vi i1, vi (i2 + (1 : Int32)), vi i3]) d24_33 ci_1 rfl (by decide) rfl <| Runs.iinc (P' := [vr a, vi i1, vi (i2 + (1 : Int32)), vi (i3 + (1 : Int32))]) d24_36 ci_1 rfl (by decide) rfl <| Runs.goto (pc' := 10) d24_39 (by decide) <| hk10 q4 i1 (i2 + (1 : Int32)) (i3 + (1 : Int32)) hf
      · refine Runs.ifY (pc' := 42) d24_26 (flt hc3).2.2.2 (by decide) <| ?_
        obtain rfl := Option.some.inj hf
        exact Runs.iloadN d24_42 rfl <| Runs.retI d24_43 rfl ⟨by decide, by decide⟩ ⟨rfl, rfl⟩
    · refine Runs.icY (pc' := 42) d24_19 (flt hc2).2.1 (by decide) <| ?_
      obtain rfl := Option.some.inj hf
      exact Runs.iloadN d24_42 rfl <| Runs.retI d24_43 rfl ⟨by decide, by decide⟩ ⟨rfl, rfl⟩
theorem X_apply_l10_p {C : Ctx} {top : Nat} {a : Nat} {H : List (Nat × Nat × Rec)} {res : Int32 × Rec} {NF : Nat} (n : Nat) (ob : Rec) (i1 : Int32) (i2 : Int32) (i3 : Int32) (hf : X_apply_l10 NF n ob i1 i2 i3 = some res) : Runs C B24 0 0 10 [vr a, vi i1, vi i2, vi i3] [] (top, (a, 17, ob) :: H) (Ans (some (.int res.1)) (top, (a, 17, res.2) :: H)) := by
  induction n generalizing ob i1 i2 i3 with
  | zero => cases (show (none : Option (Int32 × Rec)) = some res from hf)
  | succ n ih => exact X_apply_w10_p (X_apply_l10 NF n) (fun ob i1 i2 i3 h => ih _ _ _ _ h) ob i1 i2 i3 hf
def X_apply (NF : Nat) (ob : Rec) (i1 : Int32) : Option (Int32 × Rec) :=
  if (0 : Int32) < i1 then
    X_apply_l10 NF NF ob i1 (0 : Int32) (0 : Int32)
  else
    some ((0 : Int32), ob)
set_option maxRecDepth 65536 in
set_option maxHeartbeats 4000000 in
theorem X_apply_p {C : Ctx} {top : Nat} {a : Nat} {H : List (Nat × Nat × Rec)} {res : Int32 × Rec} {NF : Nat} (ob : Rec) (i1 : Int32) (hf : X_apply NF ob i1 = some res) : Runs C B24 0 0 0 [vr a, vi i1, vn, vn] [] (top, (a, 17, ob) :: H) (Ans (some (.int res.1)) (top, (a, 17, res.2) :: H)) := by
  delta X_apply at hf
  refine Runs.iloadN d24_0 rfl <| ?_
  refine ite_el hf (fun hc6 hf => ?_) (fun hc6 hf => ?_)
  · refine Runs.ifY (pc' := 6) d24_1 (tlt hc6).2.2.1 (by decide) <| ?_
    exact Runs.iconst d24_6 ci_0 <| Runs.istoreN (P' := [vr a, vi i1, vi (0 : Int32), vn]) d24_7 (by decide) rfl <| Runs.iconst d24_8 ci_0 <| Runs.istoreN (P' := [vr a, vi i1, vi (0 : Int32), vi (0 : Int32)]) d24_9 (by decide) rfl <| X_apply_l10_p NF ob i1 (0 : Int32) (0 : Int32) hf
  · refine Runs.ifN d24_1 (flt hc6).2.2.1 <| ?_
    obtain rfl := Option.some.inj hf
    exact Runs.iconst d24_4 ci_0 <| Runs.retI d24_5 rfl ⟨by decide, by decide⟩ ⟨rfl, rfl⟩
theorem X_apply_pay {C : Ctx} {top : Nat} {a : Nat} {H : List (Nat × Nat × Rec)} {res : Int32 × Rec} {NF : Nat} {ob : Rec} {i1 : Int32} (hf : X_apply NF ob i1 = some res) : Pays C B24 [.ref a, .int i1] (top, (a, 17, ob) :: H) (Ans (some (.int res.1)) (top, (a, 17, res.2) :: H)) :=
  Pays.of pnK (Nat.le_of_ble_eq_true rfl) (P := [vr a, vi i1, vn, vn]) 2 rfl (X_apply_p ob i1 hf)
def X_feedback (ob : Rec) : Option (Int32 × Rec) :=
  some ((gI ob 6), (sI ob 7 (gI ob 6)))
set_option maxRecDepth 65536 in
set_option maxHeartbeats 4000000 in
theorem X_feedback_p {C : Ctx} {top : Nat} {a : Nat} {H : List (Nat × Nat × Rec)} {res : Int32 × Rec} (ob : Rec) (hf : X_feedback ob = some res) : Runs C B26 0 0 0 [vr a] [] (top, (a, 17, ob) :: H) (Ans (some (.int res.1)) (top, (a, 17, res.2) :: H)) := by
  delta X_feedback at hf
  obtain rfl := Option.some.inj hf
  exact Runs.aloadN d26_0 rfl <| Runs.aloadN d26_1 rfl <| Runs.getI d26_2 w61 fS_6 <| Runs.putI d26_5 w63 fS_7 (Or.inl w64) <| Runs.aloadN d26_8 rfl <| Runs.getI d26_9 w63 fS_7 <| Runs.retI d26_12 rfl ⟨by decide, by decide⟩ ⟨rfl, rfl⟩
theorem X_feedback_pay {C : Ctx} {top : Nat} {a : Nat} {H : List (Nat × Nat × Rec)} {res : Int32 × Rec} {ob : Rec} (hf : X_feedback ob = some res) : Pays C B26 [.ref a] (top, (a, 17, ob) :: H) (Ans (some (.int res.1)) (top, (a, 17, res.2) :: H)) :=
  Pays.of pnK (Nat.le_of_ble_eq_true rfl) (P := [vr a]) 0 rfl (X_feedback_p ob hf)
def X_clearQueue (ob : Rec) : Option (Rec) :=
  some (sI (sI ob 8 (0 : Int32)) 9 (0 : Int32))
set_option maxRecDepth 65536 in
set_option maxHeartbeats 4000000 in
theorem X_clearQueue_p {C : Ctx} {top : Nat} {a : Nat} {H : List (Nat × Nat × Rec)} {res : Rec} (ob : Rec) (hf : X_clearQueue ob = some res) : Runs C B19 0 0 0 [vr a] [] (top, (a, 17, ob) :: H) (Ans none (top, (a, 17, res) :: H)) := by
  delta X_clearQueue at hf
  obtain rfl := Option.some.inj hf
  exact Runs.aloadN d19_0 rfl <| Runs.iconst d19_1 ci_0 <| Runs.putI d19_2 w65 fS_8 (Or.inl w66) <| Runs.aloadN d19_5 rfl <| Runs.iconst d19_6 ci_0 <| Runs.putI d19_7 w67 fS_9 (Or.inl w68) <| Runs.retV d19_10 rfl ⟨by decide, by decide⟩ ⟨rfl, rfl⟩
theorem X_clearQueue_pay {C : Ctx} {top : Nat} {a : Nat} {H : List (Nat × Nat × Rec)} {res : Rec} {ob : Rec} (hf : X_clearQueue ob = some res) : Pays C B19 [.ref a] (top, (a, 17, ob) :: H) (Ans none (top, (a, 17, res) :: H)) :=
  Pays.of pnK (Nat.le_of_ble_eq_true rfl) (P := [vr a]) 0 rfl (X_clearQueue_p ob hf)
def X_clearPending_w2 (NF : Nat) (k2 : Rec → Int32 → Option (Rec)) (ob : Rec) (i1 : Int32) : Option (Rec) :=
  if i1 < (32 : Int32) then
    chk (32 : Int32) i1 <|
    chk (32 : Int32) i1 <|
    k2 (sA (sA ob 11 i1 (0 : Int32)) 12 i1 (0 : Int32)) (i1 + (1 : Int32))
  else
    some ob
def X_clearPending_l2 (NF : Nat) : Nat → Rec → Int32 → Option (Rec)
  | 0, _, _ => none
  | n + 1, ob, i1 => X_clearPending_w2 NF (X_clearPending_l2 NF n) ob i1
set_option maxRecDepth 65536 in
set_option maxHeartbeats 4000000 in
theorem X_clearPending_w2_p {C : Ctx} {top : Nat} {a : Nat} {H : List (Nat × Nat × Rec)} {res : Rec} {NF : Nat} (k2 : Rec → Int32 → Option (Rec)) (hk2 : ∀ (ob : Rec) (i1 : Int32), k2 ob i1 = some res → Runs C B20 0 0 2 [vr a, vi i1] [] (top, (a, 17, ob) :: H) (Ans none (top, (a, 17, res) :: H))) (ob : Rec) (i1 : Int32) (hf : X_clearPending_w2 NF k2 ob i1 = some res) : Runs C B20 0 0 2 [vr a, vi i1] [] (top, (a, 17, ob) :: H) (Ans none (top, (a, 17, res) :: H)) := by
  delta X_clearPending_w2 at hf
  refine Runs.iloadN d20_2 rfl <| Runs.bipush d20_3 cb_32 <| ?_
  refine ite_el hf (fun hc1 hf => ?_) (fun hc1 hf => ?_)
  · refine Runs.icN d20_5 (tlt hc1).2.1 <| ?_
    refine Runs.aloadN d20_8 rfl <| Runs.getA d20_9 fA_11 w33 (by decide) <| Runs.iloadN d20_12 rfl <| Runs.iconst d20_13 ci_0 <| ?_
    refine chk_el hf fun hi2 hf => ?_
    refine Runs.iastoreA d20_14 fA_11 (by decide) hi2 <| Runs.aloadN d20_15 rfl <| Runs.getA d20_16 fA_12 w35 (by decide) <| Runs.iloadN d20_19 rfl <| Runs.iconst d20_20 ci_0 <| ?_
    refine chk_el hf fun hi3 hf => ?_
    exact Runs.iastoreA d20_21 fA_12 (by decide) hi3 <| Runs.iinc (P' := [vr a, vi (i1 + (1 : Int32))]) d20_22 ci_1 rfl (by decide) rfl <| Runs.goto (pc' := 2) d20_25 (by decide) <| hk2 (sA (sA ob 11 i1 (0 : Int32)) 12 i1 (0 : Int32)) (i1 + (1 : Int32)) hf
  · refine Runs.icY (pc' := 28) d20_5 (flt hc1).2.1 (by decide) <| ?_
    obtain rfl := Option.some.inj hf
    exact Runs.retV d20_28 rfl ⟨by decide, by decide⟩ ⟨rfl, rfl⟩
theorem X_clearPending_l2_p {C : Ctx} {top : Nat} {a : Nat} {H : List (Nat × Nat × Rec)} {res : Rec} {NF : Nat} (n : Nat) (ob : Rec) (i1 : Int32) (hf : X_clearPending_l2 NF n ob i1 = some res) : Runs C B20 0 0 2 [vr a, vi i1] [] (top, (a, 17, ob) :: H) (Ans none (top, (a, 17, res) :: H)) := by
  induction n generalizing ob i1 with
  | zero => cases (show (none : Option (Rec)) = some res from hf)
  | succ n ih => exact X_clearPending_w2_p (X_clearPending_l2 NF n) (fun ob i1 h => ih _ _ h) ob i1 hf
def X_clearPending (NF : Nat) (ob : Rec) : Option (Rec) :=
  X_clearPending_l2 NF NF ob (0 : Int32)
set_option maxRecDepth 65536 in
set_option maxHeartbeats 4000000 in
theorem X_clearPending_p {C : Ctx} {top : Nat} {a : Nat} {H : List (Nat × Nat × Rec)} {res : Rec} {NF : Nat} (ob : Rec) (hf : X_clearPending NF ob = some res) : Runs C B20 0 0 0 [vr a, vn] [] (top, (a, 17, ob) :: H) (Ans none (top, (a, 17, res) :: H)) := by
  delta X_clearPending at hf
  exact Runs.iconst d20_0 ci_0 <| Runs.istoreN (P' := [vr a, vi (0 : Int32)]) d20_1 (by decide) rfl <| X_clearPending_l2_p NF ob (0 : Int32) hf
theorem X_clearPending_pay {C : Ctx} {top : Nat} {a : Nat} {H : List (Nat × Nat × Rec)} {res : Rec} {NF : Nat} {ob : Rec} (hf : X_clearPending NF ob = some res) : Pays C B20 [.ref a] (top, (a, 17, ob) :: H) (Ans none (top, (a, 17, res) :: H)) :=
  Pays.of pnK (Nat.le_of_ble_eq_true rfl) (P := [vr a, vn]) 1 rfl (X_clearPending_p ob hf)
def X_crashPublisher_w2 (NF : Nat) (k2 : Rec → Int32 → Option (Rec)) (ob : Rec) (i1 : Int32) : Option (Rec) :=
  if i1 < (8 : Int32) then
    chk (8 : Int32) i1 <|
    k2 (sA ob 5 i1 (0 : Int32)) (i1 + (1 : Int32))
  else
    (X_clearQueue ob).bind fun q3 =>
    (X_clearPending NF q3).bind fun q5 =>
    some (sI q5 5 (gI q5 7))
def X_crashPublisher_l2 (NF : Nat) : Nat → Rec → Int32 → Option (Rec)
  | 0, _, _ => none
  | n + 1, ob, i1 => X_crashPublisher_w2 NF (X_crashPublisher_l2 NF n) ob i1
set_option maxRecDepth 65536 in
set_option maxHeartbeats 4000000 in
theorem X_crashPublisher_w2_p {C : Ctx} {top : Nat} {a : Nat} {H : List (Nat × Nat × Rec)} {res : Rec} {NF : Nat} (k2 : Rec → Int32 → Option (Rec)) (hk2 : ∀ (ob : Rec) (i1 : Int32), k2 ob i1 = some res → Runs C B22 0 0 2 [vr a, vi i1] [] (top, (a, 17, ob) :: H) (Ans none (top, (a, 17, res) :: H))) (ob : Rec) (i1 : Int32) (hf : X_crashPublisher_w2 NF k2 ob i1 = some res) : Runs C B22 0 0 2 [vr a, vi i1] [] (top, (a, 17, ob) :: H) (Ans none (top, (a, 17, res) :: H)) := by
  delta X_crashPublisher_w2 at hf
  refine Runs.iloadN d22_2 rfl <| Runs.bipush d22_3 cb_8 <| ?_
  refine ite_el hf (fun hc1 hf => ?_) (fun hc1 hf => ?_)
  · refine Runs.icN d22_5 (tlt hc1).2.1 <| ?_
    refine Runs.aloadN d22_8 rfl <| Runs.getA d22_9 fA_5 w21 (by decide) <| Runs.iloadN d22_12 rfl <| Runs.iconst d22_13 ci_0 <| ?_
    refine chk_el hf fun hi2 hf => ?_
    exact Runs.bastoreA (y := (0 : Int32)) d22_14 fA_5 (by decide) hi2 rfl <| Runs.iinc (P' := [vr a, vi (i1 + (1 : Int32))]) d22_15 ci_1 rfl (by decide) rfl <| Runs.goto (pc' := 2) d22_18 (by decide) <| hk2 (sA ob 5 i1 (0 : Int32)) (i1 + (1 : Int32)) hf
  · refine Runs.icY (pc' := 21) d22_5 (flt hc1).2.1 (by decide) <| ?_
    refine Runs.aloadN d22_21 rfl <| ?_
    refine bind_el hf fun q3 hg4 hf => ?_
    refine Runs.callP (N := B19) (W := 0) (as := []) (S' := []) d22_22 w140 w141 w142 rfl cw19 ar19 rk22_19_0 (by decide) rfl rfl (X_clearQueue_pay hg4) <| ans0 <| Runs.aloadN d22_25 rfl <| ?_
    refine bind_el hf fun q5 hg6 hf => ?_
    obtain rfl := Option.some.inj hf
    exact Runs.callP (N := B20) (W := 0) (as := []) (S' := []) d22_26 w144 w145 w146 rfl cw20 ar20 rk22_20_0 (by decide) rfl rfl (X_clearPending_pay hg6) <| ans0 <| Runs.aloadN d22_29 rfl <| Runs.aloadN d22_30 rfl <| Runs.getI d22_31 w63 fS_7 <| Runs.putI d22_34 w59 fS_5 (Or.inl w60) <| Runs.retV d22_37 rfl ⟨by decide, by decide⟩ ⟨rfl, rfl⟩
theorem X_crashPublisher_l2_p {C : Ctx} {top : Nat} {a : Nat} {H : List (Nat × Nat × Rec)} {res : Rec} {NF : Nat} (n : Nat) (ob : Rec) (i1 : Int32) (hf : X_crashPublisher_l2 NF n ob i1 = some res) : Runs C B22 0 0 2 [vr a, vi i1] [] (top, (a, 17, ob) :: H) (Ans none (top, (a, 17, res) :: H)) := by
  induction n generalizing ob i1 with
  | zero => cases (show (none : Option (Rec)) = some res from hf)
  | succ n ih => exact X_crashPublisher_w2_p (X_crashPublisher_l2 NF n) (fun ob i1 h => ih _ _ h) ob i1 hf
def X_crashPublisher (NF : Nat) (ob : Rec) : Option (Rec) :=
  X_crashPublisher_l2 NF NF ob (0 : Int32)
set_option maxRecDepth 65536 in
set_option maxHeartbeats 4000000 in
theorem X_crashPublisher_p {C : Ctx} {top : Nat} {a : Nat} {H : List (Nat × Nat × Rec)} {res : Rec} {NF : Nat} (ob : Rec) (hf : X_crashPublisher NF ob = some res) : Runs C B22 0 0 0 [vr a, vn] [] (top, (a, 17, ob) :: H) (Ans none (top, (a, 17, res) :: H)) := by
  delta X_crashPublisher at hf
  exact Runs.iconst d22_0 ci_0 <| Runs.istoreN (P' := [vr a, vi (0 : Int32)]) d22_1 (by decide) rfl <| X_crashPublisher_l2_p NF ob (0 : Int32) hf
theorem X_crashPublisher_pay {C : Ctx} {top : Nat} {a : Nat} {H : List (Nat × Nat × Rec)} {res : Rec} {NF : Nat} {ob : Rec} (hf : X_crashPublisher NF ob = some res) : Pays C B22 [.ref a] (top, (a, 17, ob) :: H) (Ans none (top, (a, 17, res) :: H)) :=
  Pays.of pnK (Nat.le_of_ble_eq_true rfl) (P := [vr a, vn]) 1 rfl (X_crashPublisher_p ob hf)
def X_crashSubscriber (NF : Nat) (ob : Rec) : Option (Rec) :=
  (X_clearQueue ob).bind fun q1 =>
  (X_clearPending NF q1).bind fun q3 =>
  some (sI q3 5 (gI q3 7))
set_option maxRecDepth 65536 in
set_option maxHeartbeats 4000000 in
theorem X_crashSubscriber_p {C : Ctx} {top : Nat} {a : Nat} {H : List (Nat × Nat × Rec)} {res : Rec} {NF : Nat} (ob : Rec) (hf : X_crashSubscriber NF ob = some res) : Runs C B18 0 0 0 [vr a] [] (top, (a, 17, ob) :: H) (Ans none (top, (a, 17, res) :: H)) := by
  delta X_crashSubscriber at hf
  refine Runs.aloadN d18_0 rfl <| ?_
  refine bind_el hf fun q1 hg2 hf => ?_
  refine Runs.callP (N := B19) (W := 0) (as := []) (S' := []) d18_1 w140 w141 w142 rfl cw19 ar19 rk18_19_0 (by decide) rfl rfl (X_clearQueue_pay hg2) <| ans0 <| Runs.aloadN d18_4 rfl <| ?_
  refine bind_el hf fun q3 hg4 hf => ?_
  obtain rfl := Option.some.inj hf
  exact Runs.callP (N := B20) (W := 0) (as := []) (S' := []) d18_5 w144 w145 w146 rfl cw20 ar20 rk18_20_0 (by decide) rfl rfl (X_clearPending_pay hg4) <| ans0 <| Runs.aloadN d18_8 rfl <| Runs.aloadN d18_9 rfl <| Runs.getI d18_10 w63 fS_7 <| Runs.putI d18_13 w59 fS_5 (Or.inl w60) <| Runs.retV d18_16 rfl ⟨by decide, by decide⟩ ⟨rfl, rfl⟩
theorem X_crashSubscriber_pay {C : Ctx} {top : Nat} {a : Nat} {H : List (Nat × Nat × Rec)} {res : Rec} {NF : Nat} {ob : Rec} (hf : X_crashSubscriber NF ob = some res) : Pays C B18 [.ref a] (top, (a, 17, ob) :: H) (Ans none (top, (a, 17, res) :: H)) :=
  Pays.of pnK (Nat.le_of_ble_eq_true rfl) (P := [vr a]) 0 rfl (X_crashSubscriber_p ob hf)
def L_law_b769 (NF : Nat) (z : Int32) (f : Int32 → Int32) (k36 : Rec → Int32 → Int32 → Int32 → Int32 → Int32 → Int32 → Int64 → Int32 → Option (Int32)) (ob : Rec) (i2 : Int32) (i3 : Int32) (i4 : Int32) (i5 : Int32) (i6 : Int32) (i7 : Int32) (l8 : Int64) (i10 : Int32) : Option (Int32) :=
  (X_info NF ob (0 : Int32)).bind fun r114 =>
  if r114 = i2 then
    (X_info NF ob (1 : Int32)).bind fun r117 =>
    if r117 = i4 then
      (X_info NF ob (2 : Int32)).bind fun r120 =>
      if r120 = i5 then
        (X_info NF ob (4 : Int32)).bind fun r123 =>
        if r123 = i6 then
          (X_info NF ob (5 : Int32)).bind fun r126 =>
          if r126 = i7 then
            (X_logRecord ob (i2 + (1 : Int32))).bind fun r129 =>
            if r129 = (0 : Int64) then
              k36 ob i2 i3 i4 i5 i6 i7 l8 (i10 + (4 : Int32))
            else
              some (0 : Int32)
          else
            some (0 : Int32)
        else
          some (0 : Int32)
      else
        some (0 : Int32)
    else
      some (0 : Int32)
  else
    some (0 : Int32)
set_option maxRecDepth 65536 in
set_option maxHeartbeats 4000000 in
theorem L_law_b769_p {C : Ctx} {sa : Nat} {z : Int32} {f : Int32 → Int32} (hs : ScrF C sa z f) {res : Int32} {NF : Nat} (k36 : Rec → Int32 → Int32 → Int32 → Int32 → Int32 → Int32 → Int64 → Int32 → Option (Int32)) (hk36 : ∀ (ob : Rec) (i2 : Int32) (i3 : Int32) (i4 : Int32) (i5 : Int32) (i6 : Int32) (i7 : Int32) (l8 : Int64) (i10 : Int32), k36 ob i2 i3 i4 i5 i6 i7 l8 i10 = some res → Runs C B0 18 1392 36 [vr sa, vr C.2.2.1, vi i2, vi i3, vi i4, vi i5, vi i6, vi i7, vl l8, v2, vi i10, vn, vn, vn, vn, vn, vn, vn, vn, vn, vn, vn, vn] [] (C.2.2.1 + 1 + 17, (C.2.2.1, 17, ob) :: []) (fun v _ => v = (some (.int res)))) (ob : Rec) (i2 : Int32) (i3 : Int32) (i4 : Int32) (i5 : Int32) (i6 : Int32) (i7 : Int32) (l8 : Int64) (i10 : Int32) (hf : L_law_b769 NF z f k36 ob i2 i3 i4 i5 i6 i7 l8 i10 = some res) : Runs C B0 18 1392 769 [vr sa, vr C.2.2.1, vi i2, vi i3, vi i4, vi i5, vi i6, vi i7, vl l8, v2, vi i10, vn, vn, vn, vn, vn, vn, vn, vn, vn, vn, vn, vn] [] (C.2.2.1 + 1 + 17, (C.2.2.1, 17, ob) :: []) (fun v _ => v = (some (.int res))) := by
  delta L_law_b769 at hf
  refine Runs.aloadN d0_769 rfl <| Runs.iconst d0_770 ci_0 <| ?_
  refine bind_el hf fun r114 hg115 hf => ?_
  refine Runs.callV (N := B8) (W := 0) (as := [.int (0 : Int32)]) (S' := []) d0_771 w90 w91 w92 w93 cw8 ar8 rk0_8_0 (by decide) rfl rfl (X_info_pay hg115) <| ans1 <| Runs.iloadN d0_774 rfl <| ?_
  refine ite_el hf (fun hc116 hf => ?_) (fun hc116 hf => ?_)
  · refine Runs.icY (pc' := 780) d0_775 (teq hc116).1 (by decide) <| ?_
    refine Runs.aloadN d0_780 rfl <| Runs.iconst d0_781 ci_1 <| ?_
    refine bind_el hf fun r117 hg118 hf => ?_
    refine Runs.callV (N := B8) (W := 0) (as := [.int (1 : Int32)]) (S' := []) d0_782 w90 w91 w92 w93 cw8 ar8 rk0_8_0 (by decide) rfl rfl (X_info_pay hg118) <| ans1 <| Runs.iload d0_785 rfl <| ?_
    refine ite_el hf (fun hc119 hf => ?_) (fun hc119 hf => ?_)
    · refine Runs.icY (pc' := 792) d0_787 (teq hc119).1 (by decide) <| ?_
      refine Runs.aloadN d0_792 rfl <| Runs.iconst d0_793 ci_2 <| ?_
      refine bind_el hf fun r120 hg121 hf => ?_
      refine Runs.callV (N := B8) (W := 0) (as := [.int (2 : Int32)]) (S' := []) d0_794 w90 w91 w92 w93 cw8 ar8 rk0_8_0 (by decide) rfl rfl (X_info_pay hg121) <| ans1 <| Runs.iload d0_797 rfl <| ?_
      refine ite_el hf (fun hc122 hf => ?_) (fun hc122 hf => ?_)
      · refine Runs.icY (pc' := 804) d0_799 (teq hc122).1 (by decide) <| ?_
        refine Runs.aloadN d0_804 rfl <| Runs.iconst d0_805 ci_4 <| ?_
        refine bind_el hf fun r123 hg124 hf => ?_
        refine Runs.callV (N := B8) (W := 0) (as := [.int (4 : Int32)]) (S' := []) d0_806 w90 w91 w92 w93 cw8 ar8 rk0_8_0 (by decide) rfl rfl (X_info_pay hg124) <| ans1 <| Runs.iload d0_809 rfl <| ?_
        refine ite_el hf (fun hc125 hf => ?_) (fun hc125 hf => ?_)
        · refine Runs.icY (pc' := 816) d0_811 (teq hc125).1 (by decide) <| ?_
          refine Runs.aloadN d0_816 rfl <| Runs.iconst d0_817 ci_5 <| ?_
          refine bind_el hf fun r126 hg127 hf => ?_
          refine Runs.callV (N := B8) (W := 0) (as := [.int (5 : Int32)]) (S' := []) d0_818 w90 w91 w92 w93 cw8 ar8 rk0_8_0 (by decide) rfl rfl (X_info_pay hg127) <| ans1 <| Runs.iload d0_821 rfl <| ?_
          refine ite_el hf (fun hc128 hf => ?_) (fun hc128 hf => ?_)
          · refine Runs.icY (pc' := 828) d0_823 (teq hc128).1 (by decide) <| ?_
            refine Runs.aloadN d0_828 rfl <| Runs.iloadN d0_829 rfl <| Runs.iconst d0_830 ci_1 <| Runs.iadd d0_831 <| ?_
            refine bind_el hf fun r129 hg130 hf => ?_
            refine Runs.callV (N := B10) (W := 0) (as := [.int (i2 + (1 : Int32))]) (S' := []) d0_832 w99 w100 w101 w102 cw10 ar10 rk0_10_0 (by decide) rfl rfl (X_logRecord_pay hg130) <| ans1 <| Runs.lconst d0_835 cl_0 <| Runs.lcmp d0_836 <| ?_
            refine ite_el hf (fun hc131 hf => ?_) (fun hc131 hf => ?_)
            · refine Runs.ifY (pc' := 842) d0_837 (teq ((lw_eq _ _).mpr hc131)).1 (by decide) <| ?_
              exact Runs.iinc (P' := [vr sa, vr C.2.2.1, vi i2, vi i3, vi i4, vi i5, vi i6, vi i7, vl l8, v2, vi (i10 + (4 : Int32)), vn, vn, vn, vn, vn, vn, vn, vn, vn, vn, vn, vn]) d0_842 ci_4 rfl (by decide) rfl <| Runs.goto (pc' := 36) d0_845 (by decide) <| hk36 ob i2 i3 i4 i5 i6 i7 l8 (i10 + (4 : Int32)) hf
            · refine Runs.ifN d0_837 (feq (fun u => hc131 ((lw_eq _ _).mp u))).1 <| ?_
              obtain rfl := Option.some.inj hf
              exact Runs.iconst d0_840 ci_0 <| Runs.retZ (y := (0 : Int32)) d0_841 rfl ⟨by decide, by decide⟩ rfl rfl
          · refine Runs.icN d0_823 (feq hc128).1 <| ?_
            obtain rfl := Option.some.inj hf
            exact Runs.iconst d0_826 ci_0 <| Runs.retZ (y := (0 : Int32)) d0_827 rfl ⟨by decide, by decide⟩ rfl rfl
        · refine Runs.icN d0_811 (feq hc125).1 <| ?_
          obtain rfl := Option.some.inj hf
          exact Runs.iconst d0_814 ci_0 <| Runs.retZ (y := (0 : Int32)) d0_815 rfl ⟨by decide, by decide⟩ rfl rfl
      · refine Runs.icN d0_799 (feq hc122).1 <| ?_
        obtain rfl := Option.some.inj hf
        exact Runs.iconst d0_802 ci_0 <| Runs.retZ (y := (0 : Int32)) d0_803 rfl ⟨by decide, by decide⟩ rfl rfl
    · refine Runs.icN d0_787 (feq hc119).1 <| ?_
      obtain rfl := Option.some.inj hf
      exact Runs.iconst d0_790 ci_0 <| Runs.retZ (y := (0 : Int32)) d0_791 rfl ⟨by decide, by decide⟩ rfl rfl
  · refine Runs.icN d0_775 (feq hc116).1 <| ?_
    obtain rfl := Option.some.inj hf
    exact Runs.iconst d0_778 ci_0 <| Runs.retZ (y := (0 : Int32)) d0_779 rfl ⟨by decide, by decide⟩ rfl rfl
def L_law_b332 (NF : Nat) (z : Int32) (f : Int32 → Int32) (k36 : Rec → Int32 → Int32 → Int32 → Int32 → Int32 → Int32 → Int64 → Int32 → Option (Int32)) (ob : Rec) (i2 : Int32) (i3 : Int32) (i4 : Int32) (i5 : Int32) (i6 : Int32) (i7 : Int32) (l8 : Int64) (i10 : Int32) (t0 : Int64) : Option (Int32) :=
  (X_logRecord ob i2).bind fun r69 =>
  if r69 = t0 then
    L_law_b769 NF z f k36 ob i2 i3 i4 i5 i6 i7 l8 i10
  else
    some (0 : Int32)
set_option maxRecDepth 65536 in
set_option maxHeartbeats 4000000 in
theorem L_law_b332_p {C : Ctx} {sa : Nat} {z : Int32} {f : Int32 → Int32} (hs : ScrF C sa z f) {res : Int32} {NF : Nat} (k36 : Rec → Int32 → Int32 → Int32 → Int32 → Int32 → Int32 → Int64 → Int32 → Option (Int32)) (hk36 : ∀ (ob : Rec) (i2 : Int32) (i3 : Int32) (i4 : Int32) (i5 : Int32) (i6 : Int32) (i7 : Int32) (l8 : Int64) (i10 : Int32), k36 ob i2 i3 i4 i5 i6 i7 l8 i10 = some res → Runs C B0 18 1392 36 [vr sa, vr C.2.2.1, vi i2, vi i3, vi i4, vi i5, vi i6, vi i7, vl l8, v2, vi i10, vn, vn, vn, vn, vn, vn, vn, vn, vn, vn, vn, vn] [] (C.2.2.1 + 1 + 17, (C.2.2.1, 17, ob) :: []) (fun v _ => v = (some (.int res)))) (ob : Rec) (i2 : Int32) (i3 : Int32) (i4 : Int32) (i5 : Int32) (i6 : Int32) (i7 : Int32) (l8 : Int64) (i10 : Int32) (t0 : Int64) (hf : L_law_b332 NF z f k36 ob i2 i3 i4 i5 i6 i7 l8 i10 t0 = some res) : Runs C B0 18 1392 332 [vr sa, vr C.2.2.1, vi i2, vi i3, vi i4, vi i5, vi i6, vi i7, vl l8, v2, vi i10, vn, vn, vn, vn, vn, vn, vn, vn, vn, vn, vn, vn] [.long t0] (C.2.2.1 + 1 + 17, (C.2.2.1, 17, ob) :: []) (fun v _ => v = (some (.int res))) := by
  delta L_law_b332 at hf
  refine Runs.lstore (P' := [vr sa, vr C.2.2.1, vi i2, vi i3, vi i4, vi i5, vi i6, vi i7, vl l8, v2, vi i10, vn, vn, vn, vn, vn, vn, vn, vn, vn, vn, vl t0, v2]) d0_332 (by decide) rfl <| Runs.aloadN d0_334 rfl <| Runs.iloadN d0_335 rfl <| ?_
  refine bind_el hf fun r69 hg70 hf => ?_
  refine Runs.callV (N := B10) (W := 0) (as := [.int i2]) (S' := []) d0_336 w99 w100 w101 w102 cw10 ar10 rk0_10_0 (by decide) rfl rfl (X_logRecord_pay hg70) <| ans1 <| Runs.lload d0_339 rfl <| Runs.lcmp d0_341 <| ?_
  refine ite_el hf (fun hc71 hf => ?_) (fun hc71 hf => ?_)
  · refine Runs.ifY (pc' := 347) d0_342 (teq ((lw_eq _ _).mpr hc71)).1 (by decide) <| ?_
    exact Runs.goto (pc' := 769) d0_347 (by decide) <| Runs.forget [true, true, true, true, true, true, true, true, true, true, true, false, false, false, false, false, false, false, false, false, false, false, false] rfl <| L_law_b769_p hs k36 hk36 ob i2 i3 i4 i5 i6 i7 l8 i10 hf
  · refine Runs.ifN d0_342 (feq (fun u => hc71 ((lw_eq _ _).mp u))).1 <| ?_
    obtain rfl := Option.some.inj hf
    exact Runs.iconst d0_345 ci_0 <| Runs.retZ (y := (0 : Int32)) d0_346 rfl ⟨by decide, by decide⟩ rfl rfl
def L_law_b286 (NF : Nat) (z : Int32) (f : Int32 → Int32) (k36 : Rec → Int32 → Int32 → Int32 → Int32 → Int32 → Int32 → Int64 → Int32 → Option (Int32)) (ob : Rec) (i2 : Int32) (i3 : Int32) (i4 : Int32) (i5 : Int32) (i6 : Int32) (i7 : Int32) (l8 : Int64) (i10 : Int32) (i12 : Int32) (i13 : Int32) (i15 : Int32) (i18 : Int32) (i19 : Int32) (t0 : Int32) : Option (Int32) :=
  if t0 = i19 then
    if (0 : Int32) < i19 then
      if i18 = (0 : Int32) then
        (L_rec (2 : Int32) i12 i13 i15).bind fun r65 =>
        L_law_b332 NF z f k36 ob i19 i3 i4 i5 i6 i7 l8 i10 r65
      else
        (L_rec (3 : Int32) i12 i13 (0 : Int32)).bind fun r67 =>
        L_law_b332 NF z f k36 ob i19 i3 i4 i5 i6 i7 l8 i10 r67
    else
      L_law_b769 NF z f k36 ob i2 i3 i4 i5 i6 i7 l8 i10
  else
    some (0 : Int32)
set_option maxRecDepth 65536 in
set_option maxHeartbeats 4000000 in
theorem L_law_b286_p {C : Ctx} {sa : Nat} {z : Int32} {f : Int32 → Int32} (hs : ScrF C sa z f) {res : Int32} {NF : Nat} (k36 : Rec → Int32 → Int32 → Int32 → Int32 → Int32 → Int32 → Int64 → Int32 → Option (Int32)) (hk36 : ∀ (ob : Rec) (i2 : Int32) (i3 : Int32) (i4 : Int32) (i5 : Int32) (i6 : Int32) (i7 : Int32) (l8 : Int64) (i10 : Int32), k36 ob i2 i3 i4 i5 i6 i7 l8 i10 = some res → Runs C B0 18 1392 36 [vr sa, vr C.2.2.1, vi i2, vi i3, vi i4, vi i5, vi i6, vi i7, vl l8, v2, vi i10, vn, vn, vn, vn, vn, vn, vn, vn, vn, vn, vn, vn] [] (C.2.2.1 + 1 + 17, (C.2.2.1, 17, ob) :: []) (fun v _ => v = (some (.int res)))) (ob : Rec) (i2 : Int32) (i3 : Int32) (i4 : Int32) (i5 : Int32) (i6 : Int32) (i7 : Int32) (l8 : Int64) (i10 : Int32) (i12 : Int32) (i13 : Int32) (i15 : Int32) (i18 : Int32) (i19 : Int32) (t0 : Int32) (hf : L_law_b286 NF z f k36 ob i2 i3 i4 i5 i6 i7 l8 i10 i12 i13 i15 i18 i19 t0 = some res) : Runs C B0 18 1392 286 [vr sa, vr C.2.2.1, vi i2, vi i3, vi i4, vi i5, vi i6, vi i7, vl l8, v2, vi i10, vn, vi i12, vi i13, vn, vi i15, vn, vn, vi i18, vi i19, vn, vn, vn] [.int t0] (C.2.2.1 + 1 + 17, (C.2.2.1, 17, ob) :: []) (fun v _ => v = (some (.int res))) := by
  delta L_law_b286 at hf
  refine Runs.istore (P' := [vr sa, vr C.2.2.1, vi i2, vi i3, vi i4, vi i5, vi i6, vi i7, vl l8, v2, vi i10, vn, vi i12, vi i13, vn, vi i15, vn, vn, vi i18, vi i19, vi t0, vn, vn]) d0_286 (by decide) rfl <| Runs.iload d0_288 rfl <| Runs.iload d0_290 rfl <| ?_
  refine ite_el hf (fun hc62 hf => ?_) (fun hc62 hf => ?_)
  · refine Runs.icY (pc' := 297) d0_292 (teq hc62).1 (by decide) <| ?_
    refine Runs.iload d0_297 rfl <| ?_
    refine ite_el hf (fun hc63 hf => ?_) (fun hc63 hf => ?_)
    · refine Runs.ifN d0_299 (tlt hc63).2.2.2 <| ?_
      refine Runs.iload d0_302 rfl <| Runs.istoreN (P' := [vr sa, vr C.2.2.1, vi i19, vi i3, vi i4, vi i5, vi i6, vi i7, vl l8, v2, vi i10, vn, vi i12, vi i13, vn, vi i15, vn, vn, vi i18, vi i19, vi t0, vn, vn]) d0_304 (by decide) rfl <| Runs.iload d0_305 rfl <| ?_
      refine ite_el hf (fun hc64 hf => ?_) (fun hc64 hf => ?_)
      · refine Runs.ifY (pc' := 322) d0_307 (teq hc64).1 (by decide) <| ?_
        refine Runs.iconst d0_322 ci_2 <| Runs.iload d0_323 rfl <| Runs.iload d0_325 rfl <| Runs.iload d0_327 rfl <| ?_
        refine bind_el hf fun r65 hg66 hf => ?_
        exact Runs.callS (N := B14) (W := 0) (as := [.int (2 : Int32), .int i12, .int i13, .int i15]) (S' := []) d0_329 w118 w119 cw14 ar14 rk0_14_0 (by decide) rfl rfl (L_rec_pay hg66) <| ans1 <| Runs.forget [true, true, true, true, true, true, true, true, true, true, true, false, false, false, false, false, false, false, false, false, false, false, false] rfl <| L_law_b332_p hs k36 hk36 ob i19 i3 i4 i5 i6 i7 l8 i10 r65 hf
      · refine Runs.ifN d0_307 (feq hc64).1 <| ?_
        refine Runs.iconst d0_310 ci_3 <| Runs.iload d0_311 rfl <| Runs.iload d0_313 rfl <| Runs.iconst d0_315 ci_0 <| ?_
        refine bind_el hf fun r67 hg68 hf => ?_
        exact Runs.callS (N := B14) (W := 0) (as := [.int (3 : Int32), .int i12, .int i13, .int (0 : Int32)]) (S' := []) d0_316 w118 w119 cw14 ar14 rk0_14_0 (by decide) rfl rfl (L_rec_pay hg68) <| ans1 <| Runs.goto (pc' := 332) d0_319 (by decide) <| Runs.forget [true, true, true, true, true, true, true, true, true, true, true, false, false, false, false, false, false, false, false, false, false, false, false] rfl <| L_law_b332_p hs k36 hk36 ob i19 i3 i4 i5 i6 i7 l8 i10 r67 hf
    · refine Runs.ifY (pc' := 347) d0_299 (flt hc63).2.2.2 (by decide) <| ?_
      exact Runs.goto (pc' := 769) d0_347 (by decide) <| Runs.forget [true, true, true, true, true, true, true, true, true, true, true, false, false, false, false, false, false, false, false, false, false, false, false] rfl <| L_law_b769_p hs k36 hk36 ob i2 i3 i4 i5 i6 i7 l8 i10 hf
  · refine Runs.icN d0_292 (feq hc62).1 <| ?_
    obtain rfl := Option.some.inj hf
    exact Runs.iconst d0_295 ci_0 <| Runs.retZ (y := (0 : Int32)) d0_296 rfl ⟨by decide, by decide⟩ rfl rfl
def L_law_b255 (NF : Nat) (z : Int32) (f : Int32 → Int32) (k36 : Rec → Int32 → Int32 → Int32 → Int32 → Int32 → Int32 → Int64 → Int32 → Option (Int32)) (ob : Rec) (i2 : Int32) (i3 : Int32) (i4 : Int32) (i5 : Int32) (i6 : Int32) (i7 : Int32) (l8 : Int64) (i10 : Int32) (i12 : Int32) (i13 : Int32) (i15 : Int32) (i18 : Int32) (t0 : Int32) (t1 : Int32) (t2 : Int32) (t3 : Int32) : Option (Int32) :=
  (L_want t0 t1 t2 t3).bind fun r53 =>
  if i18 = (0 : Int32) then
    bind2 (X_put ob i12 i13 i15) fun r56 q57 =>
    L_law_b286 NF z f k36 q57 i2 i3 i4 i5 i6 i7 l8 i10 i12 i13 i15 i18 r53 r56
  else
    bind2 (X_del ob i12 i13) fun r59 q60 =>
    L_law_b286 NF z f k36 q60 i2 i3 i4 i5 i6 i7 l8 i10 i12 i13 i15 i18 r53 r59
set_option maxRecDepth 65536 in
set_option maxHeartbeats 4000000 in
theorem L_law_b255_p {C : Ctx} {sa : Nat} {z : Int32} {f : Int32 → Int32} (hs : ScrF C sa z f) {res : Int32} {NF : Nat} (k36 : Rec → Int32 → Int32 → Int32 → Int32 → Int32 → Int32 → Int64 → Int32 → Option (Int32)) (hk36 : ∀ (ob : Rec) (i2 : Int32) (i3 : Int32) (i4 : Int32) (i5 : Int32) (i6 : Int32) (i7 : Int32) (l8 : Int64) (i10 : Int32), k36 ob i2 i3 i4 i5 i6 i7 l8 i10 = some res → Runs C B0 18 1392 36 [vr sa, vr C.2.2.1, vi i2, vi i3, vi i4, vi i5, vi i6, vi i7, vl l8, v2, vi i10, vn, vn, vn, vn, vn, vn, vn, vn, vn, vn, vn, vn] [] (C.2.2.1 + 1 + 17, (C.2.2.1, 17, ob) :: []) (fun v _ => v = (some (.int res)))) (ob : Rec) (i2 : Int32) (i3 : Int32) (i4 : Int32) (i5 : Int32) (i6 : Int32) (i7 : Int32) (l8 : Int64) (i10 : Int32) (i12 : Int32) (i13 : Int32) (i15 : Int32) (i18 : Int32) (t0 : Int32) (t1 : Int32) (t2 : Int32) (t3 : Int32) (hf : L_law_b255 NF z f k36 ob i2 i3 i4 i5 i6 i7 l8 i10 i12 i13 i15 i18 t0 t1 t2 t3 = some res) : Runs C B0 18 1392 255 [vr sa, vr C.2.2.1, vi i2, vi i3, vi i4, vi i5, vi i6, vi i7, vl l8, v2, vi i10, vn, vi i12, vi i13, vn, vi i15, vn, vn, vi i18, vn, vn, vn, vn] [.int t3, .int t2, .int t1, .int t0] (C.2.2.1 + 1 + 17, (C.2.2.1, 17, ob) :: []) (fun v _ => v = (some (.int res))) := by
  delta L_law_b255 at hf
  refine bind_el hf fun r53 hg54 hf => ?_
  refine Runs.callS (N := B3) (W := 0) (as := [.int t0, .int t1, .int t2, .int t3]) (S' := []) d0_255 w69 w70 cw3 ar3 rk0_3_0 (by decide) rfl rfl (L_want_pay hg54) <| ans1 <| Runs.istore (P' := [vr sa, vr C.2.2.1, vi i2, vi i3, vi i4, vi i5, vi i6, vi i7, vl l8, v2, vi i10, vn, vi i12, vi i13, vn, vi i15, vn, vn, vi i18, vi r53, vn, vn, vn]) d0_258 (by decide) rfl <| Runs.iload d0_260 rfl <| ?_
  refine ite_el hf (fun hc55 hf => ?_) (fun hc55 hf => ?_)
  · refine Runs.ifY (pc' := 276) d0_262 (teq hc55).1 (by decide) <| ?_
    refine Runs.aloadN d0_276 rfl <| Runs.iload d0_277 rfl <| Runs.iload d0_279 rfl <| Runs.iload d0_281 rfl <| ?_
    refine bind2_el hf fun r56 q57 hg58 hf => ?_
    exact Runs.callV (N := B4) (W := 0) (as := [.int i12, .int i13, .int i15]) (S' := []) d0_283 w73 w74 w75 w76 cw4 ar4 rk0_4_0 (by decide) rfl rfl (X_put_pay hg58) <| ans1 <| L_law_b286_p hs k36 hk36 q57 i2 i3 i4 i5 i6 i7 l8 i10 i12 i13 i15 i18 r53 r56 hf
  · refine Runs.ifN d0_262 (feq hc55).1 <| ?_
    refine Runs.aloadN d0_265 rfl <| Runs.iload d0_266 rfl <| Runs.iload d0_268 rfl <| ?_
    refine bind2_el hf fun r59 q60 hg61 hf => ?_
    exact Runs.callV (N := B23) (W := 0) (as := [.int i12, .int i13]) (S' := []) d0_270 w158 w159 w160 w161 cw23 ar23 rk0_23_0 (by decide) rfl rfl (X_del_pay hg61) <| ans1 <| Runs.goto (pc' := 286) d0_273 (by decide) <| L_law_b286_p hs k36 hk36 q60 i2 i3 i4 i5 i6 i7 l8 i10 i12 i13 i15 i18 r53 r59 hf
def L_law_b243 (NF : Nat) (z : Int32) (f : Int32 → Int32) (k36 : Rec → Int32 → Int32 → Int32 → Int32 → Int32 → Int32 → Int64 → Int32 → Option (Int32)) (ob : Rec) (i2 : Int32) (i3 : Int32) (i4 : Int32) (i5 : Int32) (i6 : Int32) (i7 : Int32) (l8 : Int64) (i10 : Int32) (i12 : Int32) (i13 : Int32) (i15 : Int32) (i18 : Int32) (t0 : Int32) (t1 : Int32) (t2 : Int32) : Option (Int32) :=
  if (7 : Int32) < i13 then
    L_law_b255 NF z f k36 ob i2 i3 i4 i5 i6 i7 l8 i10 i12 i13 i15 i18 t0 t1 t2 (1 : Int32)
  else
    L_law_b255 NF z f k36 ob i2 i3 i4 i5 i6 i7 l8 i10 i12 i13 i15 i18 t0 t1 t2 (0 : Int32)
set_option maxRecDepth 65536 in
set_option maxHeartbeats 4000000 in
theorem L_law_b243_p {C : Ctx} {sa : Nat} {z : Int32} {f : Int32 → Int32} (hs : ScrF C sa z f) {res : Int32} {NF : Nat} (k36 : Rec → Int32 → Int32 → Int32 → Int32 → Int32 → Int32 → Int64 → Int32 → Option (Int32)) (hk36 : ∀ (ob : Rec) (i2 : Int32) (i3 : Int32) (i4 : Int32) (i5 : Int32) (i6 : Int32) (i7 : Int32) (l8 : Int64) (i10 : Int32), k36 ob i2 i3 i4 i5 i6 i7 l8 i10 = some res → Runs C B0 18 1392 36 [vr sa, vr C.2.2.1, vi i2, vi i3, vi i4, vi i5, vi i6, vi i7, vl l8, v2, vi i10, vn, vn, vn, vn, vn, vn, vn, vn, vn, vn, vn, vn] [] (C.2.2.1 + 1 + 17, (C.2.2.1, 17, ob) :: []) (fun v _ => v = (some (.int res)))) (ob : Rec) (i2 : Int32) (i3 : Int32) (i4 : Int32) (i5 : Int32) (i6 : Int32) (i7 : Int32) (l8 : Int64) (i10 : Int32) (i12 : Int32) (i13 : Int32) (i15 : Int32) (i18 : Int32) (t0 : Int32) (t1 : Int32) (t2 : Int32) (hf : L_law_b243 NF z f k36 ob i2 i3 i4 i5 i6 i7 l8 i10 i12 i13 i15 i18 t0 t1 t2 = some res) : Runs C B0 18 1392 243 [vr sa, vr C.2.2.1, vi i2, vi i3, vi i4, vi i5, vi i6, vi i7, vl l8, v2, vi i10, vn, vi i12, vi i13, vn, vi i15, vn, vn, vi i18, vn, vn, vn, vn] [.int t2, .int t1, .int t0] (C.2.2.1 + 1 + 17, (C.2.2.1, 17, ob) :: []) (fun v _ => v = (some (.int res))) := by
  delta L_law_b243 at hf
  refine Runs.iload d0_243 rfl <| Runs.bipush d0_245 cb_7 <| ?_
  refine ite_el hf (fun hc52 hf => ?_) (fun hc52 hf => ?_)
  · refine Runs.icN d0_247 (tlt hc52).2.2.2 <| ?_
    exact Runs.iconst d0_250 ci_1 <| Runs.goto (pc' := 255) d0_251 (by decide) <| L_law_b255_p hs k36 hk36 ob i2 i3 i4 i5 i6 i7 l8 i10 i12 i13 i15 i18 t0 t1 t2 (1 : Int32) hf
  · refine Runs.icY (pc' := 254) d0_247 (flt hc52).2.2.2 (by decide) <| ?_
    exact Runs.iconst d0_254 ci_0 <| L_law_b255_p hs k36 hk36 ob i2 i3 i4 i5 i6 i7 l8 i10 i12 i13 i15 i18 t0 t1 t2 (0 : Int32) hf
def L_law_b228 (NF : Nat) (z : Int32) (f : Int32 → Int32) (k36 : Rec → Int32 → Int32 → Int32 → Int32 → Int32 → Int32 → Int64 → Int32 → Option (Int32)) (ob : Rec) (i2 : Int32) (i3 : Int32) (i4 : Int32) (i5 : Int32) (i6 : Int32) (i7 : Int32) (l8 : Int64) (i10 : Int32) (i12 : Int32) (i13 : Int32) (i15 : Int32) (i16 : Int32) (i17 : Int32) (t0 : Int32) : Option (Int32) :=
  if i17 = (0 : Int32) then
    L_law_b243 NF z f k36 ob i2 i3 i4 i5 i6 i7 l8 i10 i12 i13 i15 t0 i2 i16 (1 : Int32)
  else
    L_law_b243 NF z f k36 ob i2 i3 i4 i5 i6 i7 l8 i10 i12 i13 i15 t0 i2 i16 (0 : Int32)
set_option maxRecDepth 65536 in
set_option maxHeartbeats 4000000 in
theorem L_law_b228_p {C : Ctx} {sa : Nat} {z : Int32} {f : Int32 → Int32} (hs : ScrF C sa z f) {res : Int32} {NF : Nat} (k36 : Rec → Int32 → Int32 → Int32 → Int32 → Int32 → Int32 → Int64 → Int32 → Option (Int32)) (hk36 : ∀ (ob : Rec) (i2 : Int32) (i3 : Int32) (i4 : Int32) (i5 : Int32) (i6 : Int32) (i7 : Int32) (l8 : Int64) (i10 : Int32), k36 ob i2 i3 i4 i5 i6 i7 l8 i10 = some res → Runs C B0 18 1392 36 [vr sa, vr C.2.2.1, vi i2, vi i3, vi i4, vi i5, vi i6, vi i7, vl l8, v2, vi i10, vn, vn, vn, vn, vn, vn, vn, vn, vn, vn, vn, vn] [] (C.2.2.1 + 1 + 17, (C.2.2.1, 17, ob) :: []) (fun v _ => v = (some (.int res)))) (ob : Rec) (i2 : Int32) (i3 : Int32) (i4 : Int32) (i5 : Int32) (i6 : Int32) (i7 : Int32) (l8 : Int64) (i10 : Int32) (i12 : Int32) (i13 : Int32) (i15 : Int32) (i16 : Int32) (i17 : Int32) (t0 : Int32) (hf : L_law_b228 NF z f k36 ob i2 i3 i4 i5 i6 i7 l8 i10 i12 i13 i15 i16 i17 t0 = some res) : Runs C B0 18 1392 228 [vr sa, vr C.2.2.1, vi i2, vi i3, vi i4, vi i5, vi i6, vi i7, vl l8, v2, vi i10, vn, vi i12, vi i13, vn, vi i15, vi i16, vi i17, vn, vn, vn, vn, vn] [.int t0] (C.2.2.1 + 1 + 17, (C.2.2.1, 17, ob) :: []) (fun v _ => v = (some (.int res))) := by
  delta L_law_b228 at hf
  refine Runs.istore (P' := [vr sa, vr C.2.2.1, vi i2, vi i3, vi i4, vi i5, vi i6, vi i7, vl l8, v2, vi i10, vn, vi i12, vi i13, vn, vi i15, vi i16, vi i17, vi t0, vn, vn, vn, vn]) d0_228 (by decide) rfl <| Runs.iloadN d0_230 rfl <| Runs.iload d0_231 rfl <| Runs.iload d0_233 rfl <| ?_
  refine ite_el hf (fun hc51 hf => ?_) (fun hc51 hf => ?_)
  · refine Runs.ifN d0_235 (teq hc51).2 <| ?_
    exact Runs.iconst d0_238 ci_1 <| Runs.goto (pc' := 243) d0_239 (by decide) <| Runs.forget [true, true, true, true, true, true, true, true, true, true, true, false, true, true, false, true, false, false, true, false, false, false, false] rfl <| L_law_b243_p hs k36 hk36 ob i2 i3 i4 i5 i6 i7 l8 i10 i12 i13 i15 t0 i2 i16 (1 : Int32) hf
  · refine Runs.ifY (pc' := 242) d0_235 (feq hc51).2 (by decide) <| ?_
    exact Runs.iconst d0_242 ci_0 <| Runs.forget [true, true, true, true, true, true, true, true, true, true, true, false, true, true, false, true, false, false, true, false, false, false, false] rfl <| L_law_b243_p hs k36 hk36 ob i2 i3 i4 i5 i6 i7 l8 i10 i12 i13 i15 t0 i2 i16 (0 : Int32) hf
def L_law_b217 (NF : Nat) (z : Int32) (f : Int32 → Int32) (k36 : Rec → Int32 → Int32 → Int32 → Int32 → Int32 → Int32 → Int64 → Int32 → Option (Int32)) (ob : Rec) (i2 : Int32) (i3 : Int32) (i4 : Int32) (i5 : Int32) (i6 : Int32) (i7 : Int32) (l8 : Int64) (i10 : Int32) (i11 : Int32) (i12 : Int32) (i13 : Int32) (i15 : Int32) (i16 : Int32) (i17 : Int32) : Option (Int32) :=
  if i11 = (4 : Int32) then
    L_law_b228 NF z f k36 ob i2 i3 i4 i5 i6 i7 l8 i10 i12 i13 i15 i16 i17 (1 : Int32)
  else
    L_law_b228 NF z f k36 ob i2 i3 i4 i5 i6 i7 l8 i10 i12 i13 i15 i16 i17 (0 : Int32)
set_option maxRecDepth 65536 in
set_option maxHeartbeats 4000000 in
theorem L_law_b217_p {C : Ctx} {sa : Nat} {z : Int32} {f : Int32 → Int32} (hs : ScrF C sa z f) {res : Int32} {NF : Nat} (k36 : Rec → Int32 → Int32 → Int32 → Int32 → Int32 → Int32 → Int64 → Int32 → Option (Int32)) (hk36 : ∀ (ob : Rec) (i2 : Int32) (i3 : Int32) (i4 : Int32) (i5 : Int32) (i6 : Int32) (i7 : Int32) (l8 : Int64) (i10 : Int32), k36 ob i2 i3 i4 i5 i6 i7 l8 i10 = some res → Runs C B0 18 1392 36 [vr sa, vr C.2.2.1, vi i2, vi i3, vi i4, vi i5, vi i6, vi i7, vl l8, v2, vi i10, vn, vn, vn, vn, vn, vn, vn, vn, vn, vn, vn, vn] [] (C.2.2.1 + 1 + 17, (C.2.2.1, 17, ob) :: []) (fun v _ => v = (some (.int res)))) (ob : Rec) (i2 : Int32) (i3 : Int32) (i4 : Int32) (i5 : Int32) (i6 : Int32) (i7 : Int32) (l8 : Int64) (i10 : Int32) (i11 : Int32) (i12 : Int32) (i13 : Int32) (i15 : Int32) (i16 : Int32) (i17 : Int32) (hf : L_law_b217 NF z f k36 ob i2 i3 i4 i5 i6 i7 l8 i10 i11 i12 i13 i15 i16 i17 = some res) : Runs C B0 18 1392 217 [vr sa, vr C.2.2.1, vi i2, vi i3, vi i4, vi i5, vi i6, vi i7, vl l8, v2, vi i10, vi i11, vi i12, vi i13, vn, vi i15, vi i16, vi i17, vn, vn, vn, vn, vn] [] (C.2.2.1 + 1 + 17, (C.2.2.1, 17, ob) :: []) (fun v _ => v = (some (.int res))) := by
  delta L_law_b217 at hf
  refine Runs.iload d0_217 rfl <| Runs.iconst d0_219 ci_4 <| ?_
  refine ite_el hf (fun hc50 hf => ?_) (fun hc50 hf => ?_)
  · refine Runs.icN d0_220 (teq hc50).2 <| ?_
    exact Runs.iconst d0_223 ci_1 <| Runs.goto (pc' := 228) d0_224 (by decide) <| Runs.forget [true, true, true, true, true, true, true, true, true, true, true, false, true, true, false, true, true, true, false, false, false, false, false] rfl <| L_law_b228_p hs k36 hk36 ob i2 i3 i4 i5 i6 i7 l8 i10 i12 i13 i15 i16 i17 (1 : Int32) hf
  · refine Runs.icY (pc' := 227) d0_220 (feq hc50).2 (by decide) <| ?_
    exact Runs.iconst d0_227 ci_0 <| Runs.forget [true, true, true, true, true, true, true, true, true, true, true, false, true, true, false, true, true, true, false, false, false, false, false] rfl <| L_law_b228_p hs k36 hk36 ob i2 i3 i4 i5 i6 i7 l8 i10 i12 i13 i15 i16 i17 (0 : Int32) hf
def L_law_b466 (NF : Nat) (z : Int32) (f : Int32 → Int32) (k36 : Rec → Int32 → Int32 → Int32 → Int32 → Int32 → Int32 → Int64 → Int32 → Option (Int32)) (ob : Rec) (i2 : Int32) (i3 : Int32) (i4 : Int32) (i5 : Int32) (i6 : Int32) (i7 : Int32) (l8 : Int64) (i10 : Int32) (i12 : Int32) (t0 : Int32) : Option (Int32) :=
  (X_logRecord ob i2).bind fun r86 =>
  (L_rec t0 i12 (0 : Int32) (0 : Int32)).bind fun r88 =>
  if r86 = r88 then
    L_law_b769 NF z f k36 ob i2 i3 i4 i5 i6 i7 l8 i10
  else
    some (0 : Int32)
set_option maxRecDepth 65536 in
set_option maxHeartbeats 4000000 in
theorem L_law_b466_p {C : Ctx} {sa : Nat} {z : Int32} {f : Int32 → Int32} (hs : ScrF C sa z f) {res : Int32} {NF : Nat} (k36 : Rec → Int32 → Int32 → Int32 → Int32 → Int32 → Int32 → Int64 → Int32 → Option (Int32)) (hk36 : ∀ (ob : Rec) (i2 : Int32) (i3 : Int32) (i4 : Int32) (i5 : Int32) (i6 : Int32) (i7 : Int32) (l8 : Int64) (i10 : Int32), k36 ob i2 i3 i4 i5 i6 i7 l8 i10 = some res → Runs C B0 18 1392 36 [vr sa, vr C.2.2.1, vi i2, vi i3, vi i4, vi i5, vi i6, vi i7, vl l8, v2, vi i10, vn, vn, vn, vn, vn, vn, vn, vn, vn, vn, vn, vn] [] (C.2.2.1 + 1 + 17, (C.2.2.1, 17, ob) :: []) (fun v _ => v = (some (.int res)))) (ob : Rec) (i2 : Int32) (i3 : Int32) (i4 : Int32) (i5 : Int32) (i6 : Int32) (i7 : Int32) (l8 : Int64) (i10 : Int32) (i12 : Int32) (t0 : Int32) (hf : L_law_b466 NF z f k36 ob i2 i3 i4 i5 i6 i7 l8 i10 i12 t0 = some res) : Runs C B0 18 1392 466 [vr sa, vr C.2.2.1, vi i2, vi i3, vi i4, vi i5, vi i6, vi i7, vl l8, v2, vi i10, vn, vi i12, vn, vn, vn, vn, vn, vn, vn, vn, vn, vn] [.int t0] (C.2.2.1 + 1 + 17, (C.2.2.1, 17, ob) :: []) (fun v _ => v = (some (.int res))) := by
  delta L_law_b466 at hf
  refine Runs.istore (P' := [vr sa, vr C.2.2.1, vi i2, vi i3, vi i4, vi i5, vi i6, vi i7, vl l8, v2, vi i10, vn, vi i12, vn, vn, vn, vn, vn, vn, vn, vn, vi t0, vn]) d0_466 (by decide) rfl <| Runs.aloadN d0_468 rfl <| Runs.iloadN d0_469 rfl <| ?_
  refine bind_el hf fun r86 hg87 hf => ?_
  refine Runs.callV (N := B10) (W := 0) (as := [.int i2]) (S' := []) d0_470 w99 w100 w101 w102 cw10 ar10 rk0_10_0 (by decide) rfl rfl (X_logRecord_pay hg87) <| ans1 <| Runs.iload d0_473 rfl <| Runs.iload d0_475 rfl <| Runs.iconst d0_477 ci_0 <| Runs.iconst d0_478 ci_0 <| ?_
  refine bind_el hf fun r88 hg89 hf => ?_
  refine Runs.callS (N := B14) (W := 2) (as := [.int t0, .int i12, .int (0 : Int32), .int (0 : Int32)]) (S' := [.long r86]) d0_479 w118 w119 cw14 ar14 rk0_14_2 (by decide) rfl rfl (L_rec_pay hg89) <| ans1 <| Runs.lcmp d0_482 <| ?_
  refine ite_el hf (fun hc90 hf => ?_) (fun hc90 hf => ?_)
  · refine Runs.ifY (pc' := 488) d0_483 (teq ((lw_eq _ _).mpr hc90)).1 (by decide) <| ?_
    exact Runs.goto (pc' := 769) d0_488 (by decide) <| Runs.forget [true, true, true, true, true, true, true, true, true, true, true, false, false, false, false, false, false, false, false, false, false, false, false] rfl <| L_law_b769_p hs k36 hk36 ob i2 i3 i4 i5 i6 i7 l8 i10 hf
  · refine Runs.ifN d0_483 (feq (fun u => hc90 ((lw_eq _ _).mp u))).1 <| ?_
    obtain rfl := Option.some.inj hf
    exact Runs.iconst d0_486 ci_0 <| Runs.retZ (y := (0 : Int32)) d0_487 rfl ⟨by decide, by decide⟩ rfl rfl
def L_law_b456 (NF : Nat) (z : Int32) (f : Int32 → Int32) (k36 : Rec → Int32 → Int32 → Int32 → Int32 → Int32 → Int32 → Int64 → Int32 → Option (Int32)) (ob : Rec) (i2 : Int32) (i3 : Int32) (i4 : Int32) (i5 : Int32) (i6 : Int32) (i7 : Int32) (l8 : Int64) (i10 : Int32) (i12 : Int32) (i18 : Int32) : Option (Int32) :=
  if i18 = (0 : Int32) then
    L_law_b466 NF z f k36 ob i2 i3 i4 i5 i6 i7 l8 i10 i12 (4 : Int32)
  else
    L_law_b466 NF z f k36 ob i2 i3 i4 i5 i6 i7 l8 i10 i12 (5 : Int32)
set_option maxRecDepth 65536 in
set_option maxHeartbeats 4000000 in
theorem L_law_b456_p {C : Ctx} {sa : Nat} {z : Int32} {f : Int32 → Int32} (hs : ScrF C sa z f) {res : Int32} {NF : Nat} (k36 : Rec → Int32 → Int32 → Int32 → Int32 → Int32 → Int32 → Int64 → Int32 → Option (Int32)) (hk36 : ∀ (ob : Rec) (i2 : Int32) (i3 : Int32) (i4 : Int32) (i5 : Int32) (i6 : Int32) (i7 : Int32) (l8 : Int64) (i10 : Int32), k36 ob i2 i3 i4 i5 i6 i7 l8 i10 = some res → Runs C B0 18 1392 36 [vr sa, vr C.2.2.1, vi i2, vi i3, vi i4, vi i5, vi i6, vi i7, vl l8, v2, vi i10, vn, vn, vn, vn, vn, vn, vn, vn, vn, vn, vn, vn] [] (C.2.2.1 + 1 + 17, (C.2.2.1, 17, ob) :: []) (fun v _ => v = (some (.int res)))) (ob : Rec) (i2 : Int32) (i3 : Int32) (i4 : Int32) (i5 : Int32) (i6 : Int32) (i7 : Int32) (l8 : Int64) (i10 : Int32) (i12 : Int32) (i18 : Int32) (hf : L_law_b456 NF z f k36 ob i2 i3 i4 i5 i6 i7 l8 i10 i12 i18 = some res) : Runs C B0 18 1392 456 [vr sa, vr C.2.2.1, vi i2, vi i3, vi i4, vi i5, vi i6, vi i7, vl l8, v2, vi i10, vn, vi i12, vn, vn, vn, vn, vn, vi i18, vn, vn, vn, vn] [] (C.2.2.1 + 1 + 17, (C.2.2.1, 17, ob) :: []) (fun v _ => v = (some (.int res))) := by
  delta L_law_b456 at hf
  refine Runs.iload d0_456 rfl <| ?_
  refine ite_el hf (fun hc85 hf => ?_) (fun hc85 hf => ?_)
  · refine Runs.ifY (pc' := 465) d0_458 (teq hc85).1 (by decide) <| ?_
    exact Runs.iconst d0_465 ci_4 <| Runs.forget [true, true, true, true, true, true, true, true, true, true, true, false, true, false, false, false, false, false, false, false, false, false, false] rfl <| L_law_b466_p hs k36 hk36 ob i2 i3 i4 i5 i6 i7 l8 i10 i12 (4 : Int32) hf
  · refine Runs.ifN d0_458 (feq hc85).1 <| ?_
    exact Runs.iconst d0_461 ci_5 <| Runs.goto (pc' := 466) d0_462 (by decide) <| Runs.forget [true, true, true, true, true, true, true, true, true, true, true, false, true, false, false, false, false, false, false, false, false, false, false] rfl <| L_law_b466_p hs k36 hk36 ob i2 i3 i4 i5 i6 i7 l8 i10 i12 (5 : Int32) hf
def L_law_b410 (NF : Nat) (z : Int32) (f : Int32 → Int32) (k36 : Rec → Int32 → Int32 → Int32 → Int32 → Int32 → Int32 → Int64 → Int32 → Option (Int32)) (ob : Rec) (i2 : Int32) (i3 : Int32) (i4 : Int32) (i5 : Int32) (i6 : Int32) (i7 : Int32) (l8 : Int64) (i10 : Int32) (i12 : Int32) (i18 : Int32) (i19 : Int32) (t0 : Int32) : Option (Int32) :=
  if t0 = i19 then
    if (0 : Int32) < i19 then
      if i18 = (0 : Int32) then
        L_law_b456 NF z f k36 ob i19 (i3 &&& (((1 : Int32) <<< (i12 &&& 31)) ^^^ (-1 : Int32))) (i4 + (-1 : Int32)) i5 i6 i7 (l8 ||| ((1 : Int64) <<< ((i19 - (1 : Int32)) &&& 0x3f).toInt64)) i10 i12 i18
      else
        L_law_b456 NF z f k36 ob i19 (i3 &&& (((1 : Int32) <<< (i12 &&& 31)) ^^^ (-1 : Int32))) (i4 + (-1 : Int32)) i5 i6 i7 l8 i10 i12 i18
    else
      L_law_b769 NF z f k36 ob i2 i3 i4 i5 i6 i7 l8 i10
  else
    some (0 : Int32)
set_option maxRecDepth 65536 in
set_option maxHeartbeats 4000000 in
theorem L_law_b410_p {C : Ctx} {sa : Nat} {z : Int32} {f : Int32 → Int32} (hs : ScrF C sa z f) {res : Int32} {NF : Nat} (k36 : Rec → Int32 → Int32 → Int32 → Int32 → Int32 → Int32 → Int64 → Int32 → Option (Int32)) (hk36 : ∀ (ob : Rec) (i2 : Int32) (i3 : Int32) (i4 : Int32) (i5 : Int32) (i6 : Int32) (i7 : Int32) (l8 : Int64) (i10 : Int32), k36 ob i2 i3 i4 i5 i6 i7 l8 i10 = some res → Runs C B0 18 1392 36 [vr sa, vr C.2.2.1, vi i2, vi i3, vi i4, vi i5, vi i6, vi i7, vl l8, v2, vi i10, vn, vn, vn, vn, vn, vn, vn, vn, vn, vn, vn, vn] [] (C.2.2.1 + 1 + 17, (C.2.2.1, 17, ob) :: []) (fun v _ => v = (some (.int res)))) (ob : Rec) (i2 : Int32) (i3 : Int32) (i4 : Int32) (i5 : Int32) (i6 : Int32) (i7 : Int32) (l8 : Int64) (i10 : Int32) (i12 : Int32) (i18 : Int32) (i19 : Int32) (t0 : Int32) (hf : L_law_b410 NF z f k36 ob i2 i3 i4 i5 i6 i7 l8 i10 i12 i18 i19 t0 = some res) : Runs C B0 18 1392 410 [vr sa, vr C.2.2.1, vi i2, vi i3, vi i4, vi i5, vi i6, vi i7, vl l8, v2, vi i10, vn, vi i12, vn, vn, vn, vn, vn, vi i18, vi i19, vn, vn, vn] [.int t0] (C.2.2.1 + 1 + 17, (C.2.2.1, 17, ob) :: []) (fun v _ => v = (some (.int res))) := by
  delta L_law_b410 at hf
  refine Runs.istore (P' := [vr sa, vr C.2.2.1, vi i2, vi i3, vi i4, vi i5, vi i6, vi i7, vl l8, v2, vi i10, vn, vi i12, vn, vn, vn, vn, vn, vi i18, vi i19, vi t0, vn, vn]) d0_410 (by decide) rfl <| Runs.iload d0_412 rfl <| Runs.iload d0_414 rfl <| ?_
  refine ite_el hf (fun hc82 hf => ?_) (fun hc82 hf => ?_)
  · refine Runs.icY (pc' := 421) d0_416 (teq hc82).1 (by decide) <| ?_
    refine Runs.iload d0_421 rfl <| ?_
    refine ite_el hf (fun hc83 hf => ?_) (fun hc83 hf => ?_)
    · refine Runs.ifN d0_423 (tlt hc83).2.2.2 <| ?_
      refine Runs.iload d0_426 rfl <| Runs.istoreN (P' := [vr sa, vr C.2.2.1, vi i19, vi i3, vi i4, vi i5, vi i6, vi i7, vl l8, v2, vi i10, vn, vi i12, vn, vn, vn, vn, vn, vi i18, vi i19, vi t0, vn, vn]) d0_428 (by decide) rfl <| Runs.iloadN d0_429 rfl <| Runs.iconst d0_430 ci_1 <| Runs.iload d0_431 rfl <| Runs.ishl d0_433 <| Runs.iconst d0_434 ci_m1 <| Runs.ixor d0_435 <| Runs.iand d0_436 <| Runs.istoreN (P' := [vr sa, vr C.2.2.1, vi i19, vi (i3 &&& (((1 : Int32) <<< (i12 &&& 31)) ^^^ (-1 : Int32))), vi i4, vi i5, vi i6, vi i7, vl l8, v2, vi i10, vn, vi i12, vn, vn, vn, vn, vn, vi i18, vi i19, vi t0, vn, vn]) d0_437 (by decide) rfl <| Runs.iinc (P' := [vr sa, vr C.2.2.1, vi i19, vi (i3 &&& (((1 : Int32) <<< (i12 &&& 31)) ^^^ (-1 : Int32))), vi (i4 + (-1 : Int32)), vi i5, vi i6, vi i7, vl l8, v2, vi i10, vn, vi i12, vn, vn, vn, vn, vn, vi i18, vi i19, vi t0, vn, vn]) d0_438 ci_m1 rfl (by decide) rfl <| Runs.iload d0_441 rfl <| ?_
      refine ite_el hf (fun hc84 hf => ?_) (fun hc84 hf => ?_)
      · refine Runs.ifN d0_443 (teq hc84).2 <| ?_
        exact Runs.lload d0_446 rfl <| Runs.lconst d0_448 cl_1 <| Runs.iloadN d0_449 rfl <| Runs.iconst d0_450 ci_1 <| Runs.isub d0_451 <| Runs.lshl d0_452 <| Runs.lor d0_453 <| Runs.lstore (P' := [vr sa, vr C.2.2.1, vi i19, vi (i3 &&& (((1 : Int32) <<< (i12 &&& 31)) ^^^ (-1 : Int32))), vi (i4 + (-1 : Int32)), vi i5, vi i6, vi i7, vl (l8 ||| ((1 : Int64) <<< ((i19 - (1 : Int32)) &&& 0x3f).toInt64)), v2, vi i10, vn, vi i12, vn, vn, vn, vn, vn, vi i18, vi i19, vi t0, vn, vn]) d0_454 (by decide) rfl <| Runs.forget [true, true, true, true, true, true, true, true, true, true, true, false, true, false, false, false, false, false, true, false, false, false, false] rfl <| L_law_b456_p hs k36 hk36 ob i19 (i3 &&& (((1 : Int32) <<< (i12 &&& 31)) ^^^ (-1 : Int32))) (i4 + (-1 : Int32)) i5 i6 i7 (l8 ||| ((1 : Int64) <<< ((i19 - (1 : Int32)) &&& 0x3f).toInt64)) i10 i12 i18 hf
      · exact Runs.ifY (pc' := 456) d0_443 (feq hc84).2 (by decide) <| Runs.forget [true, true, true, true, true, true, true, true, true, true, true, false, true, false, false, false, false, false, true, false, false, false, false] rfl <| L_law_b456_p hs k36 hk36 ob i19 (i3 &&& (((1 : Int32) <<< (i12 &&& 31)) ^^^ (-1 : Int32))) (i4 + (-1 : Int32)) i5 i6 i7 l8 i10 i12 i18 hf
    · refine Runs.ifY (pc' := 488) d0_423 (flt hc83).2.2.2 (by decide) <| ?_
      exact Runs.goto (pc' := 769) d0_488 (by decide) <| Runs.forget [true, true, true, true, true, true, true, true, true, true, true, false, false, false, false, false, false, false, false, false, false, false, false] rfl <| L_law_b769_p hs k36 hk36 ob i2 i3 i4 i5 i6 i7 l8 i10 hf
  · refine Runs.icN d0_416 (feq hc82).1 <| ?_
    obtain rfl := Option.some.inj hf
    exact Runs.iconst d0_419 ci_0 <| Runs.retZ (y := (0 : Int32)) d0_420 rfl ⟨by decide, by decide⟩ rfl rfl
def L_law_b384 (NF : Nat) (z : Int32) (f : Int32 → Int32) (k36 : Rec → Int32 → Int32 → Int32 → Int32 → Int32 → Int32 → Int64 → Int32 → Option (Int32)) (ob : Rec) (i2 : Int32) (i3 : Int32) (i4 : Int32) (i5 : Int32) (i6 : Int32) (i7 : Int32) (l8 : Int64) (i10 : Int32) (i12 : Int32) (i18 : Int32) (t0 : Int32) (t1 : Int32) (t2 : Int32) : Option (Int32) :=
  (L_want t0 t1 t2 (0 : Int32)).bind fun r73 =>
  if i18 = (0 : Int32) then
    bind2 (X_commit NF ob i12) fun r76 q77 =>
    L_law_b410 NF z f k36 q77 i2 i3 i4 i5 i6 i7 l8 i10 i12 i18 r73 r76
  else
    bind2 (X_abort ob i12) fun r79 q80 =>
    L_law_b410 NF z f k36 q80 i2 i3 i4 i5 i6 i7 l8 i10 i12 i18 r73 r79
set_option maxRecDepth 65536 in
set_option maxHeartbeats 4000000 in
theorem L_law_b384_p {C : Ctx} {sa : Nat} {z : Int32} {f : Int32 → Int32} (hs : ScrF C sa z f) {res : Int32} {NF : Nat} (k36 : Rec → Int32 → Int32 → Int32 → Int32 → Int32 → Int32 → Int64 → Int32 → Option (Int32)) (hk36 : ∀ (ob : Rec) (i2 : Int32) (i3 : Int32) (i4 : Int32) (i5 : Int32) (i6 : Int32) (i7 : Int32) (l8 : Int64) (i10 : Int32), k36 ob i2 i3 i4 i5 i6 i7 l8 i10 = some res → Runs C B0 18 1392 36 [vr sa, vr C.2.2.1, vi i2, vi i3, vi i4, vi i5, vi i6, vi i7, vl l8, v2, vi i10, vn, vn, vn, vn, vn, vn, vn, vn, vn, vn, vn, vn] [] (C.2.2.1 + 1 + 17, (C.2.2.1, 17, ob) :: []) (fun v _ => v = (some (.int res)))) (ob : Rec) (i2 : Int32) (i3 : Int32) (i4 : Int32) (i5 : Int32) (i6 : Int32) (i7 : Int32) (l8 : Int64) (i10 : Int32) (i12 : Int32) (i18 : Int32) (t0 : Int32) (t1 : Int32) (t2 : Int32) (hf : L_law_b384 NF z f k36 ob i2 i3 i4 i5 i6 i7 l8 i10 i12 i18 t0 t1 t2 = some res) : Runs C B0 18 1392 384 [vr sa, vr C.2.2.1, vi i2, vi i3, vi i4, vi i5, vi i6, vi i7, vl l8, v2, vi i10, vn, vi i12, vn, vn, vn, vn, vn, vi i18, vn, vn, vn, vn] [.int t2, .int t1, .int t0] (C.2.2.1 + 1 + 17, (C.2.2.1, 17, ob) :: []) (fun v _ => v = (some (.int res))) := by
  delta L_law_b384 at hf
  refine Runs.iconst d0_384 ci_0 <| ?_
  refine bind_el hf fun r73 hg74 hf => ?_
  refine Runs.callS (N := B3) (W := 0) (as := [.int t0, .int t1, .int t2, .int (0 : Int32)]) (S' := []) d0_385 w69 w70 cw3 ar3 rk0_3_0 (by decide) rfl rfl (L_want_pay hg74) <| ans1 <| Runs.istore (P' := [vr sa, vr C.2.2.1, vi i2, vi i3, vi i4, vi i5, vi i6, vi i7, vl l8, v2, vi i10, vn, vi i12, vn, vn, vn, vn, vn, vi i18, vi r73, vn, vn, vn]) d0_388 (by decide) rfl <| Runs.iload d0_390 rfl <| ?_
  refine ite_el hf (fun hc75 hf => ?_) (fun hc75 hf => ?_)
  · refine Runs.ifY (pc' := 404) d0_392 (teq hc75).1 (by decide) <| ?_
    refine Runs.aloadN d0_404 rfl <| Runs.iload d0_405 rfl <| ?_
    refine bind2_el hf fun r76 q77 hg78 hf => ?_
    exact Runs.callV (N := B25) (W := 0) (as := [.int i12]) (S' := []) d0_407 w168 w169 w170 w171 cw25 ar25 rk0_25_0 (by decide) rfl rfl (X_commit_pay hg78) <| ans1 <| L_law_b410_p hs k36 hk36 q77 i2 i3 i4 i5 i6 i7 l8 i10 i12 i18 r73 r76 hf
  · refine Runs.ifN d0_392 (feq hc75).1 <| ?_
    refine Runs.aloadN d0_395 rfl <| Runs.iload d0_396 rfl <| ?_
    refine bind2_el hf fun r79 q80 hg81 hf => ?_
    exact Runs.callV (N := B21) (W := 0) (as := [.int i12]) (S' := []) d0_398 w148 w149 w150 w151 cw21 ar21 rk0_21_0 (by decide) rfl rfl (X_abort_pay hg81) <| ans1 <| Runs.goto (pc' := 410) d0_401 (by decide) <| L_law_b410_p hs k36 hk36 q80 i2 i3 i4 i5 i6 i7 l8 i10 i12 i18 r73 r79 hf
def L_law_b369 (NF : Nat) (z : Int32) (f : Int32 → Int32) (k36 : Rec → Int32 → Int32 → Int32 → Int32 → Int32 → Int32 → Int64 → Int32 → Option (Int32)) (ob : Rec) (i2 : Int32) (i3 : Int32) (i4 : Int32) (i5 : Int32) (i6 : Int32) (i7 : Int32) (l8 : Int64) (i10 : Int32) (i12 : Int32) (i16 : Int32) (i17 : Int32) (t0 : Int32) : Option (Int32) :=
  if i17 = (0 : Int32) then
    L_law_b384 NF z f k36 ob i2 i3 i4 i5 i6 i7 l8 i10 i12 t0 i2 i16 (1 : Int32)
  else
    L_law_b384 NF z f k36 ob i2 i3 i4 i5 i6 i7 l8 i10 i12 t0 i2 i16 (0 : Int32)
set_option maxRecDepth 65536 in
set_option maxHeartbeats 4000000 in
theorem L_law_b369_p {C : Ctx} {sa : Nat} {z : Int32} {f : Int32 → Int32} (hs : ScrF C sa z f) {res : Int32} {NF : Nat} (k36 : Rec → Int32 → Int32 → Int32 → Int32 → Int32 → Int32 → Int64 → Int32 → Option (Int32)) (hk36 : ∀ (ob : Rec) (i2 : Int32) (i3 : Int32) (i4 : Int32) (i5 : Int32) (i6 : Int32) (i7 : Int32) (l8 : Int64) (i10 : Int32), k36 ob i2 i3 i4 i5 i6 i7 l8 i10 = some res → Runs C B0 18 1392 36 [vr sa, vr C.2.2.1, vi i2, vi i3, vi i4, vi i5, vi i6, vi i7, vl l8, v2, vi i10, vn, vn, vn, vn, vn, vn, vn, vn, vn, vn, vn, vn] [] (C.2.2.1 + 1 + 17, (C.2.2.1, 17, ob) :: []) (fun v _ => v = (some (.int res)))) (ob : Rec) (i2 : Int32) (i3 : Int32) (i4 : Int32) (i5 : Int32) (i6 : Int32) (i7 : Int32) (l8 : Int64) (i10 : Int32) (i12 : Int32) (i16 : Int32) (i17 : Int32) (t0 : Int32) (hf : L_law_b369 NF z f k36 ob i2 i3 i4 i5 i6 i7 l8 i10 i12 i16 i17 t0 = some res) : Runs C B0 18 1392 369 [vr sa, vr C.2.2.1, vi i2, vi i3, vi i4, vi i5, vi i6, vi i7, vl l8, v2, vi i10, vn, vi i12, vn, vn, vn, vi i16, vi i17, vn, vn, vn, vn, vn] [.int t0] (C.2.2.1 + 1 + 17, (C.2.2.1, 17, ob) :: []) (fun v _ => v = (some (.int res))) := by
  delta L_law_b369 at hf
  refine Runs.istore (P' := [vr sa, vr C.2.2.1, vi i2, vi i3, vi i4, vi i5, vi i6, vi i7, vl l8, v2, vi i10, vn, vi i12, vn, vn, vn, vi i16, vi i17, vi t0, vn, vn, vn, vn]) d0_369 (by decide) rfl <| Runs.iloadN d0_371 rfl <| Runs.iload d0_372 rfl <| Runs.iload d0_374 rfl <| ?_
  refine ite_el hf (fun hc72 hf => ?_) (fun hc72 hf => ?_)
  · refine Runs.ifN d0_376 (teq hc72).2 <| ?_
    exact Runs.iconst d0_379 ci_1 <| Runs.goto (pc' := 384) d0_380 (by decide) <| Runs.forget [true, true, true, true, true, true, true, true, true, true, true, false, true, false, false, false, false, false, true, false, false, false, false] rfl <| L_law_b384_p hs k36 hk36 ob i2 i3 i4 i5 i6 i7 l8 i10 i12 t0 i2 i16 (1 : Int32) hf
  · refine Runs.ifY (pc' := 383) d0_376 (feq hc72).2 (by decide) <| ?_
    exact Runs.iconst d0_383 ci_0 <| Runs.forget [true, true, true, true, true, true, true, true, true, true, true, false, true, false, false, false, false, false, true, false, false, false, false] rfl <| L_law_b384_p hs k36 hk36 ob i2 i3 i4 i5 i6 i7 l8 i10 i12 t0 i2 i16 (0 : Int32) hf
def L_law_w514 (NF : Nat) (z : Int32) (f : Int32 → Int32) (k36 : Rec → Int32 → Int32 → Int32 → Int32 → Int32 → Int32 → Int64 → Int32 → Option (Int32)) (k514 : Rec → Int32 → Int32 → Int32 → Int32 → Int32 → Int32 → Int64 → Int32 → Int32 → Int32 → Int32 → Int32 → Option (Int32)) (ob : Rec) (i2 : Int32) (i3 : Int32) (i4 : Int32) (i5 : Int32) (i6 : Int32) (i7 : Int32) (l8 : Int64) (i10 : Int32) (i14 : Int32) (i18 : Int32) (i19 : Int32) (i20 : Int32) : Option (Int32) :=
  if i2 < i20 then
    bind2 (X_stream NF ob i14) fun r92 q93 =>
    if r92 = i19 then
      (X_info NF q93 (3 : Int32)).bind fun r96 =>
      if r96 < (i18 + i19) then
        some (0 : Int32)
      else
        L_law_b769 NF z f k36 q93 i2 i3 i4 i5 i6 i7 l8 i10
    else
      some (0 : Int32)
  else
    if i19 < i14 then
      if (((l8.toUInt64 >>> ((i20 - (1 : Int32)) &&& 0x3f).toInt64.toUInt64).toInt64) &&& (1 : Int64)) = (1 : Int64) then
        k514 ob i2 i3 i4 i20 i6 i7 l8 i10 i14 i18 (i19 + (1 : Int32)) (i20 + (1 : Int32))
      else
        k514 ob i2 i3 i4 i5 i6 i7 l8 i10 i14 i18 i19 (i20 + (1 : Int32))
    else
      k514 ob i2 i3 i4 i5 i6 i7 l8 i10 i14 i18 i19 (i20 + (1 : Int32))
def L_law_l514 (NF : Nat) (z : Int32) (f : Int32 → Int32) (k36 : Rec → Int32 → Int32 → Int32 → Int32 → Int32 → Int32 → Int64 → Int32 → Option (Int32)) : Nat → Rec → Int32 → Int32 → Int32 → Int32 → Int32 → Int32 → Int64 → Int32 → Int32 → Int32 → Int32 → Int32 → Option (Int32)
  | 0, _, _, _, _, _, _, _, _, _, _, _, _, _ => none
  | n + 1, ob, i2, i3, i4, i5, i6, i7, l8, i10, i14, i18, i19, i20 => L_law_w514 NF z f k36 (L_law_l514 NF z f k36 n) ob i2 i3 i4 i5 i6 i7 l8 i10 i14 i18 i19 i20
set_option maxRecDepth 65536 in
set_option maxHeartbeats 4000000 in
theorem L_law_w514_p {C : Ctx} {sa : Nat} {z : Int32} {f : Int32 → Int32} (hs : ScrF C sa z f) {res : Int32} {NF : Nat} (k36 : Rec → Int32 → Int32 → Int32 → Int32 → Int32 → Int32 → Int64 → Int32 → Option (Int32)) (hk36 : ∀ (ob : Rec) (i2 : Int32) (i3 : Int32) (i4 : Int32) (i5 : Int32) (i6 : Int32) (i7 : Int32) (l8 : Int64) (i10 : Int32), k36 ob i2 i3 i4 i5 i6 i7 l8 i10 = some res → Runs C B0 18 1392 36 [vr sa, vr C.2.2.1, vi i2, vi i3, vi i4, vi i5, vi i6, vi i7, vl l8, v2, vi i10, vn, vn, vn, vn, vn, vn, vn, vn, vn, vn, vn, vn] [] (C.2.2.1 + 1 + 17, (C.2.2.1, 17, ob) :: []) (fun v _ => v = (some (.int res)))) (k514 : Rec → Int32 → Int32 → Int32 → Int32 → Int32 → Int32 → Int64 → Int32 → Int32 → Int32 → Int32 → Int32 → Option (Int32)) (hk514 : ∀ (ob : Rec) (i2 : Int32) (i3 : Int32) (i4 : Int32) (i5 : Int32) (i6 : Int32) (i7 : Int32) (l8 : Int64) (i10 : Int32) (i14 : Int32) (i18 : Int32) (i19 : Int32) (i20 : Int32), k514 ob i2 i3 i4 i5 i6 i7 l8 i10 i14 i18 i19 i20 = some res → Runs C B0 18 1392 514 [vr sa, vr C.2.2.1, vi i2, vi i3, vi i4, vi i5, vi i6, vi i7, vl l8, v2, vi i10, vn, vn, vn, vi i14, vn, vn, vn, vi i18, vi i19, vi i20, vn, vn] [] (C.2.2.1 + 1 + 17, (C.2.2.1, 17, ob) :: []) (fun v _ => v = (some (.int res)))) (ob : Rec) (i2 : Int32) (i3 : Int32) (i4 : Int32) (i5 : Int32) (i6 : Int32) (i7 : Int32) (l8 : Int64) (i10 : Int32) (i14 : Int32) (i18 : Int32) (i19 : Int32) (i20 : Int32) (hf : L_law_w514 NF z f k36 k514 ob i2 i3 i4 i5 i6 i7 l8 i10 i14 i18 i19 i20 = some res) : Runs C B0 18 1392 514 [vr sa, vr C.2.2.1, vi i2, vi i3, vi i4, vi i5, vi i6, vi i7, vl l8, v2, vi i10, vn, vn, vn, vi i14, vn, vn, vn, vi i18, vi i19, vi i20, vn, vn] [] (C.2.2.1 + 1 + 17, (C.2.2.1, 17, ob) :: []) (fun v _ => v = (some (.int res))) := by
  delta L_law_w514 at hf
  refine Runs.iload d0_514 rfl <| Runs.iloadN d0_516 rfl <| ?_
  refine ite_el hf (fun hc91 hf => ?_) (fun hc91 hf => ?_)
  · refine Runs.icY (pc' := 554) d0_517 (tlt hc91).2.2.1 (by decide) <| ?_
    refine Runs.aloadN d0_554 rfl <| Runs.iload d0_555 rfl <| ?_
    refine bind2_el hf fun r92 q93 hg94 hf => ?_
    refine Runs.callV (N := B16) (W := 0) (as := [.int i14]) (S' := []) d0_557 w126 w127 w128 w129 cw16 ar16 rk0_16_0 (by decide) rfl rfl (X_stream_pay hg94) <| ans1 <| Runs.iload d0_560 rfl <| ?_
    refine ite_el hf (fun hc95 hf => ?_) (fun hc95 hf => ?_)
    · refine Runs.icY (pc' := 567) d0_562 (teq hc95).1 (by decide) <| ?_
      refine Runs.aloadN d0_567 rfl <| Runs.iconst d0_568 ci_3 <| ?_
      refine bind_el hf fun r96 hg97 hf => ?_
      refine Runs.callV (N := B8) (W := 0) (as := [.int (3 : Int32)]) (S' := []) d0_569 w90 w91 w92 w93 cw8 ar8 rk0_8_0 (by decide) rfl rfl (X_info_pay hg97) <| ans1 <| Runs.iload d0_572 rfl <| Runs.iload d0_574 rfl <| Runs.iadd d0_576 <| ?_
      refine ite_el hf (fun hc98 hf => ?_) (fun hc98 hf => ?_)
      · refine Runs.icN d0_577 (tlt hc98).2.1 <| ?_
        obtain rfl := Option.some.inj hf
        exact Runs.iconst d0_580 ci_0 <| Runs.retZ (y := (0 : Int32)) d0_581 rfl ⟨by decide, by decide⟩ rfl rfl
      · refine Runs.icY (pc' := 582) d0_577 (flt hc98).2.1 (by decide) <| ?_
        exact Runs.goto (pc' := 769) d0_582 (by decide) <| Runs.forget [true, true, true, true, true, true, true, true, true, true, true, false, false, false, false, false, false, false, false, false, false, false, false] rfl <| L_law_b769_p hs k36 hk36 q93 i2 i3 i4 i5 i6 i7 l8 i10 hf
    · refine Runs.icN d0_562 (feq hc95).1 <| ?_
      obtain rfl := Option.some.inj hf
      exact Runs.iconst d0_565 ci_0 <| Runs.retZ (y := (0 : Int32)) d0_566 rfl ⟨by decide, by decide⟩ rfl rfl
  · refine Runs.icN d0_517 (flt hc91).2.2.1 <| ?_
    refine Runs.iload d0_520 rfl <| Runs.iload d0_522 rfl <| ?_
    refine ite_el hf (fun hc99 hf => ?_) (fun hc99 hf => ?_)
    · refine Runs.icN d0_524 (tlt hc99).2.1 <| ?_
      refine Runs.lload d0_527 rfl <| Runs.iload d0_529 rfl <| Runs.iconst d0_531 ci_1 <| Runs.isub d0_532 <| Runs.lushr d0_533 <| Runs.lconst d0_534 cl_1 <| Runs.land d0_535 <| Runs.lconst d0_536 cl_1 <| Runs.lcmp d0_537 <| ?_
      refine ite_el hf (fun hc100 hf => ?_) (fun hc100 hf => ?_)
      · refine Runs.ifN d0_538 (teq ((lw_eq _ _).mpr hc100)).2 <| ?_
        exact Runs.iinc (P' := [vr sa, vr C.2.2.1, vi i2, vi i3, vi i4, vi i5, vi i6, vi i7, vl l8, v2, vi i10, vn, vn, vn, vi i14, vn, vn, vn, vi i18, vi (i19 + (1 : Int32)), vi i20, vn, vn]) d0_541 ci_1 rfl (by decide) rfl <| Runs.iload d0_544 rfl <| Runs.istore (P' := [vr sa, vr C.2.2.1, vi i2, vi i3, vi i4, vi i20, vi i6, vi i7, vl l8, v2, vi i10, vn, vn, vn, vi i14, vn, vn, vn, vi i18, vi (i19 + (1 : Int32)), vi i20, vn, vn]) d0_546 (by decide) rfl <| Runs.iinc (P' := [vr sa, vr C.2.2.1, vi i2, vi i3, vi i4, vi i20, vi i6, vi i7, vl l8, v2, vi i10, vn, vn, vn, vi i14, vn, vn, vn, vi i18, vi (i19 + (1 : Int32)), vi (i20 + (1 : Int32)), vn, vn]) d0_548 ci_1 rfl (by decide) rfl <| Runs.goto (pc' := 514) d0_551 (by decide) <| hk514 ob i2 i3 i4 i20 i6 i7 l8 i10 i14 i18 (i19 + (1 : Int32)) (i20 + (1 : Int32)) hf
      · refine Runs.ifY (pc' := 548) d0_538 (feq (fun u => hc100 ((lw_eq _ _).mp u))).2 (by decide) <| ?_
        exact Runs.iinc (P' := [vr sa, vr C.2.2.1, vi i2, vi i3, vi i4, vi i5, vi i6, vi i7, vl l8, v2, vi i10, vn, vn, vn, vi i14, vn, vn, vn, vi i18, vi i19, vi (i20 + (1 : Int32)), vn, vn]) d0_548 ci_1 rfl (by decide) rfl <| Runs.goto (pc' := 514) d0_551 (by decide) <| hk514 ob i2 i3 i4 i5 i6 i7 l8 i10 i14 i18 i19 (i20 + (1 : Int32)) hf
    · refine Runs.icY (pc' := 548) d0_524 (flt hc99).2.1 (by decide) <| ?_
      exact Runs.iinc (P' := [vr sa, vr C.2.2.1, vi i2, vi i3, vi i4, vi i5, vi i6, vi i7, vl l8, v2, vi i10, vn, vn, vn, vi i14, vn, vn, vn, vi i18, vi i19, vi (i20 + (1 : Int32)), vn, vn]) d0_548 ci_1 rfl (by decide) rfl <| Runs.goto (pc' := 514) d0_551 (by decide) <| hk514 ob i2 i3 i4 i5 i6 i7 l8 i10 i14 i18 i19 (i20 + (1 : Int32)) hf
theorem L_law_l514_p {C : Ctx} {sa : Nat} {z : Int32} {f : Int32 → Int32} (hs : ScrF C sa z f) {res : Int32} {NF : Nat} (k36 : Rec → Int32 → Int32 → Int32 → Int32 → Int32 → Int32 → Int64 → Int32 → Option (Int32)) (hk36 : ∀ (ob : Rec) (i2 : Int32) (i3 : Int32) (i4 : Int32) (i5 : Int32) (i6 : Int32) (i7 : Int32) (l8 : Int64) (i10 : Int32), k36 ob i2 i3 i4 i5 i6 i7 l8 i10 = some res → Runs C B0 18 1392 36 [vr sa, vr C.2.2.1, vi i2, vi i3, vi i4, vi i5, vi i6, vi i7, vl l8, v2, vi i10, vn, vn, vn, vn, vn, vn, vn, vn, vn, vn, vn, vn] [] (C.2.2.1 + 1 + 17, (C.2.2.1, 17, ob) :: []) (fun v _ => v = (some (.int res)))) (n : Nat) (ob : Rec) (i2 : Int32) (i3 : Int32) (i4 : Int32) (i5 : Int32) (i6 : Int32) (i7 : Int32) (l8 : Int64) (i10 : Int32) (i14 : Int32) (i18 : Int32) (i19 : Int32) (i20 : Int32) (hf : L_law_l514 NF z f k36 n ob i2 i3 i4 i5 i6 i7 l8 i10 i14 i18 i19 i20 = some res) : Runs C B0 18 1392 514 [vr sa, vr C.2.2.1, vi i2, vi i3, vi i4, vi i5, vi i6, vi i7, vl l8, v2, vi i10, vn, vn, vn, vi i14, vn, vn, vn, vi i18, vi i19, vi i20, vn, vn] [] (C.2.2.1 + 1 + 17, (C.2.2.1, 17, ob) :: []) (fun v _ => v = (some (.int res))) := by
  induction n generalizing ob i2 i3 i4 i5 i6 i7 l8 i10 i14 i18 i19 i20 with
  | zero => cases (show (none : Option (Int32)) = some res from hf)
  | succ n ih => exact L_law_w514_p hs k36 hk36 (L_law_l514 NF z f k36 n) (fun ob i2 i3 i4 i5 i6 i7 l8 i10 i14 i18 i19 i20 h => ih _ _ _ _ _ _ _ _ _ _ _ _ _ h) ob i2 i3 i4 i5 i6 i7 l8 i10 i14 i18 i19 i20 hf
def L_law_b613 (NF : Nat) (z : Int32) (f : Int32 → Int32) (k36 : Rec → Int32 → Int32 → Int32 → Int32 → Int32 → Int32 → Int64 → Int32 → Option (Int32)) (ob : Rec) (i2 : Int32) (i3 : Int32) (i4 : Int32) (i5 : Int32) (i6 : Int32) (i7 : Int32) (l8 : Int64) (i10 : Int32) (i14 : Int32) (i18 : Int32) (t0 : Int32) : Option (Int32) :=
  bind2 (X_apply NF ob i14) fun r101 q102 =>
  if r101 = t0 then
    (X_info NF q102 (3 : Int32)).bind fun r105 =>
    if r105 = (i18 - t0) then
      (X_info NF q102 (4 : Int32)).bind fun r108 =>
      if r108 = i6 then
        L_law_b769 NF z f k36 q102 i2 i3 i4 i5 i6 i7 l8 i10
      else
        if r108 < i6 then
          some (0 : Int32)
        else
          if i5 < r108 then
            some (0 : Int32)
          else
            if (((l8.toUInt64 >>> ((r108 - (1 : Int32)) &&& 0x3f).toInt64.toUInt64).toInt64) &&& (1 : Int64)) = (1 : Int64) then
              L_law_b769 NF z f k36 q102 i2 i3 i4 i5 r108 i7 l8 i10
            else
              some (0 : Int32)
    else
      some (0 : Int32)
  else
    some (0 : Int32)
set_option maxRecDepth 65536 in
set_option maxHeartbeats 4000000 in
theorem L_law_b613_p {C : Ctx} {sa : Nat} {z : Int32} {f : Int32 → Int32} (hs : ScrF C sa z f) {res : Int32} {NF : Nat} (k36 : Rec → Int32 → Int32 → Int32 → Int32 → Int32 → Int32 → Int64 → Int32 → Option (Int32)) (hk36 : ∀ (ob : Rec) (i2 : Int32) (i3 : Int32) (i4 : Int32) (i5 : Int32) (i6 : Int32) (i7 : Int32) (l8 : Int64) (i10 : Int32), k36 ob i2 i3 i4 i5 i6 i7 l8 i10 = some res → Runs C B0 18 1392 36 [vr sa, vr C.2.2.1, vi i2, vi i3, vi i4, vi i5, vi i6, vi i7, vl l8, v2, vi i10, vn, vn, vn, vn, vn, vn, vn, vn, vn, vn, vn, vn] [] (C.2.2.1 + 1 + 17, (C.2.2.1, 17, ob) :: []) (fun v _ => v = (some (.int res)))) (ob : Rec) (i2 : Int32) (i3 : Int32) (i4 : Int32) (i5 : Int32) (i6 : Int32) (i7 : Int32) (l8 : Int64) (i10 : Int32) (i14 : Int32) (i18 : Int32) (t0 : Int32) (hf : L_law_b613 NF z f k36 ob i2 i3 i4 i5 i6 i7 l8 i10 i14 i18 t0 = some res) : Runs C B0 18 1392 613 [vr sa, vr C.2.2.1, vi i2, vi i3, vi i4, vi i5, vi i6, vi i7, vl l8, v2, vi i10, vn, vn, vn, vi i14, vn, vn, vn, vi i18, vn, vn, vn, vn] [.int t0] (C.2.2.1 + 1 + 17, (C.2.2.1, 17, ob) :: []) (fun v _ => v = (some (.int res))) := by
  delta L_law_b613 at hf
  refine Runs.istore (P' := [vr sa, vr C.2.2.1, vi i2, vi i3, vi i4, vi i5, vi i6, vi i7, vl l8, v2, vi i10, vn, vn, vn, vi i14, vn, vn, vn, vi i18, vi t0, vn, vn, vn]) d0_613 (by decide) rfl <| Runs.aloadN d0_615 rfl <| Runs.iload d0_616 rfl <| ?_
  refine bind2_el hf fun r101 q102 hg103 hf => ?_
  refine Runs.callV (N := B24) (W := 0) (as := [.int i14]) (S' := []) d0_618 w163 w164 w165 w166 cw24 ar24 rk0_24_0 (by decide) rfl rfl (X_apply_pay hg103) <| ans1 <| Runs.iload d0_621 rfl <| ?_
  refine ite_el hf (fun hc104 hf => ?_) (fun hc104 hf => ?_)
  · refine Runs.icY (pc' := 628) d0_623 (teq hc104).1 (by decide) <| ?_
    refine Runs.aloadN d0_628 rfl <| Runs.iconst d0_629 ci_3 <| ?_
    refine bind_el hf fun r105 hg106 hf => ?_
    refine Runs.callV (N := B8) (W := 0) (as := [.int (3 : Int32)]) (S' := []) d0_630 w90 w91 w92 w93 cw8 ar8 rk0_8_0 (by decide) rfl rfl (X_info_pay hg106) <| ans1 <| Runs.iload d0_633 rfl <| Runs.iload d0_635 rfl <| Runs.isub d0_637 <| ?_
    refine ite_el hf (fun hc107 hf => ?_) (fun hc107 hf => ?_)
    · refine Runs.icY (pc' := 643) d0_638 (teq hc107).1 (by decide) <| ?_
      refine Runs.aloadN d0_643 rfl <| Runs.iconst d0_644 ci_4 <| ?_
      refine bind_el hf fun r108 hg109 hf => ?_
      refine Runs.callV (N := B8) (W := 0) (as := [.int (4 : Int32)]) (S' := []) d0_645 w90 w91 w92 w93 cw8 ar8 rk0_8_0 (by decide) rfl rfl (X_info_pay hg109) <| ans1 <| Runs.istore (P' := [vr sa, vr C.2.2.1, vi i2, vi i3, vi i4, vi i5, vi i6, vi i7, vl l8, v2, vi i10, vn, vn, vn, vi i14, vn, vn, vn, vi i18, vi t0, vi r108, vn, vn]) d0_648 (by decide) rfl <| Runs.iload d0_650 rfl <| Runs.iload d0_652 rfl <| ?_
      refine ite_el hf (fun hc110 hf => ?_) (fun hc110 hf => ?_)
      · refine Runs.icY (pc' := 693) d0_654 (teq hc110).1 (by decide) <| ?_
        exact Runs.goto (pc' := 769) d0_693 (by decide) <| Runs.forget [true, true, true, true, true, true, true, true, true, true, true, false, false, false, false, false, false, false, false, false, false, false, false] rfl <| L_law_b769_p hs k36 hk36 q102 i2 i3 i4 i5 i6 i7 l8 i10 hf
      · refine Runs.icN d0_654 (feq hc110).1 <| ?_
        refine Runs.iload d0_657 rfl <| Runs.iload d0_659 rfl <| ?_
        refine ite_el hf (fun hc111 hf => ?_) (fun hc111 hf => ?_)
        · refine Runs.icY (pc' := 671) d0_661 (tlt hc111).1 (by decide) <| ?_
          obtain rfl := Option.some.inj hf
          exact Runs.iconst d0_671 ci_0 <| Runs.retZ (y := (0 : Int32)) d0_672 rfl ⟨by decide, by decide⟩ rfl rfl
        · refine Runs.icN d0_661 (flt hc111).1 <| ?_
          refine Runs.iload d0_664 rfl <| Runs.iload d0_666 rfl <| ?_
          refine ite_el hf (fun hc112 hf => ?_) (fun hc112 hf => ?_)
          · refine Runs.icN d0_668 (tlt hc112).2.2.2 <| ?_
            obtain rfl := Option.some.inj hf
            exact Runs.iconst d0_671 ci_0 <| Runs.retZ (y := (0 : Int32)) d0_672 rfl ⟨by decide, by decide⟩ rfl rfl
          · refine Runs.icY (pc' := 673) d0_668 (flt hc112).2.2.2 (by decide) <| ?_
            refine Runs.lload d0_673 rfl <| Runs.iload d0_675 rfl <| Runs.iconst d0_677 ci_1 <| Runs.isub d0_678 <| Runs.lushr d0_679 <| Runs.lconst d0_680 cl_1 <| Runs.land d0_681 <| Runs.lconst d0_682 cl_1 <| Runs.lcmp d0_683 <| ?_
            refine ite_el hf (fun hc113 hf => ?_) (fun hc113 hf => ?_)
            · refine Runs.ifY (pc' := 689) d0_684 (teq ((lw_eq _ _).mpr hc113)).1 (by decide) <| ?_
              exact Runs.iload d0_689 rfl <| Runs.istore (P' := [vr sa, vr C.2.2.1, vi i2, vi i3, vi i4, vi i5, vi r108, vi i7, vl l8, v2, vi i10, vn, vn, vn, vi i14, vn, vn, vn, vi i18, vi t0, vi r108, vn, vn]) d0_691 (by decide) rfl <| Runs.goto (pc' := 769) d0_693 (by decide) <| Runs.forget [true, true, true, true, true, true, true, true, true, true, true, false, false, false, false, false, false, false, false, false, false, false, false] rfl <| L_law_b769_p hs k36 hk36 q102 i2 i3 i4 i5 r108 i7 l8 i10 hf
            · refine Runs.ifN d0_684 (feq (fun u => hc113 ((lw_eq _ _).mp u))).1 <| ?_
              obtain rfl := Option.some.inj hf
              exact Runs.iconst d0_687 ci_0 <| Runs.retZ (y := (0 : Int32)) d0_688 rfl ⟨by decide, by decide⟩ rfl rfl
    · refine Runs.icN d0_638 (feq hc107).1 <| ?_
      obtain rfl := Option.some.inj hf
      exact Runs.iconst d0_641 ci_0 <| Runs.retZ (y := (0 : Int32)) d0_642 rfl ⟨by decide, by decide⟩ rfl rfl
  · refine Runs.icN d0_623 (feq hc104).1 <| ?_
    obtain rfl := Option.some.inj hf
    exact Runs.iconst d0_626 ci_0 <| Runs.retZ (y := (0 : Int32)) d0_627 rfl ⟨by decide, by decide⟩ rfl rfl
def L_law_b132 (NF : Nat) (z : Int32) (f : Int32 → Int32) (k36 : Rec → Int32 → Int32 → Int32 → Int32 → Int32 → Int32 → Int64 → Int32 → Option (Int32)) (ob : Rec) (i2 : Int32) (i3 : Int32) (i4 : Int32) (i5 : Int32) (i6 : Int32) (i7 : Int32) (l8 : Int64) (i10 : Int32) (i11 : Int32) (i12 : Int32) (i13 : Int32) (i14 : Int32) (i15 : Int32) (i16 : Int32) (t0 : Int32) : Option (Int32) :=
  if (1 : Int32) < i11 then
    if (4 : Int32) < i11 then
      if i11 = (15 : Int32) then
        L_law_b217 NF z f k36 ob i2 i3 i4 i5 i6 i7 l8 i10 i11 i12 i13 i15 i16 t0
      else
        if (7 : Int32) < i11 then
          if (9 : Int32) < i11 then
            if (11 : Int32) < i11 then
              if i11 = (12 : Int32) then
                bind2 (X_feedback ob) fun r17 q18 =>
                if r17 = i6 then
                  L_law_b769 NF z f k36 q18 i2 i3 i4 i5 i6 i6 l8 i10
                else
                  some (0 : Int32)
              else
                if i11 = (13 : Int32) then
                  (X_crashPublisher NF ob).bind fun q22 =>
                  (X_info NF q22 (3 : Int32)).bind fun r24 =>
                  if r24 = (0 : Int32) then
                    L_law_b769 NF z f k36 q22 i2 (0 : Int32) (0 : Int32) i7 i6 i7 l8 i10
                  else
                    some (0 : Int32)
                else
                  (X_crashSubscriber NF ob).bind fun q27 =>
                  (X_info NF q27 (3 : Int32)).bind fun r29 =>
                  if r29 = (0 : Int32) then
                    L_law_b769 NF z f k36 q27 i2 i3 i4 i7 i6 i7 l8 i10
                  else
                    some (0 : Int32)
            else
              (X_info NF ob (3 : Int32)).bind fun r32 =>
              if i14 < r32 then
                L_law_b613 NF z f k36 ob i2 i3 i4 i5 i6 i7 l8 i10 i14 r32 i14
              else
                L_law_b613 NF z f k36 ob i2 i3 i4 i5 i6 i7 l8 i10 i14 r32 r32
          else
            (X_info NF ob (3 : Int32)).bind fun r35 =>
            L_law_l514 NF z f k36 NF ob i2 i3 i4 i5 i6 i7 l8 i10 i14 r35 (0 : Int32) (i5 + (1 : Int32))
        else
          if i11 = (7 : Int32) then
            L_law_b369 NF z f k36 ob i2 i3 i4 i5 i6 i7 l8 i10 i12 i16 t0 (1 : Int32)
          else
            L_law_b369 NF z f k36 ob i2 i3 i4 i5 i6 i7 l8 i10 i12 i16 t0 (0 : Int32)
    else
      L_law_b217 NF z f k36 ob i2 i3 i4 i5 i6 i7 l8 i10 i11 i12 i13 i15 i16 t0
  else
    (L_want i2 i16 t0 (0 : Int32)).bind fun r38 =>
    bind2 (X_begin ob i12) fun r40 q41 =>
    if r40 = r38 then
      if (0 : Int32) < r38 then
        (X_logRecord q41 r38).bind fun r45 =>
        (L_rec (1 : Int32) i12 (0 : Int32) (0 : Int32)).bind fun r47 =>
        if r45 = r47 then
          L_law_b769 NF z f k36 q41 r38 (i3 ||| ((1 : Int32) <<< (i12 &&& 31))) (i4 + (1 : Int32)) i5 i6 i7 l8 i10
        else
          some (0 : Int32)
      else
        L_law_b769 NF z f k36 q41 i2 i3 i4 i5 i6 i7 l8 i10
    else
      some (0 : Int32)
set_option maxRecDepth 65536 in
set_option maxHeartbeats 4000000 in
theorem L_law_b132_p {C : Ctx} {sa : Nat} {z : Int32} {f : Int32 → Int32} (hs : ScrF C sa z f) {res : Int32} {NF : Nat} (k36 : Rec → Int32 → Int32 → Int32 → Int32 → Int32 → Int32 → Int64 → Int32 → Option (Int32)) (hk36 : ∀ (ob : Rec) (i2 : Int32) (i3 : Int32) (i4 : Int32) (i5 : Int32) (i6 : Int32) (i7 : Int32) (l8 : Int64) (i10 : Int32), k36 ob i2 i3 i4 i5 i6 i7 l8 i10 = some res → Runs C B0 18 1392 36 [vr sa, vr C.2.2.1, vi i2, vi i3, vi i4, vi i5, vi i6, vi i7, vl l8, v2, vi i10, vn, vn, vn, vn, vn, vn, vn, vn, vn, vn, vn, vn] [] (C.2.2.1 + 1 + 17, (C.2.2.1, 17, ob) :: []) (fun v _ => v = (some (.int res)))) (ob : Rec) (i2 : Int32) (i3 : Int32) (i4 : Int32) (i5 : Int32) (i6 : Int32) (i7 : Int32) (l8 : Int64) (i10 : Int32) (i11 : Int32) (i12 : Int32) (i13 : Int32) (i14 : Int32) (i15 : Int32) (i16 : Int32) (t0 : Int32) (hf : L_law_b132 NF z f k36 ob i2 i3 i4 i5 i6 i7 l8 i10 i11 i12 i13 i14 i15 i16 t0 = some res) : Runs C B0 18 1392 132 [vr sa, vr C.2.2.1, vi i2, vi i3, vi i4, vi i5, vi i6, vi i7, vl l8, v2, vi i10, vi i11, vi i12, vi i13, vi i14, vi i15, vi i16, vn, vn, vn, vn, vn, vn] [.int t0] (C.2.2.1 + 1 + 17, (C.2.2.1, 17, ob) :: []) (fun v _ => v = (some (.int res))) := by
  delta L_law_b132 at hf
  refine Runs.istore (P' := [vr sa, vr C.2.2.1, vi i2, vi i3, vi i4, vi i5, vi i6, vi i7, vl l8, v2, vi i10, vi i11, vi i12, vi i13, vi i14, vi i15, vi i16, vi t0, vn, vn, vn, vn, vn]) d0_132 (by decide) rfl <| Runs.iload d0_134 rfl <| Runs.iconst d0_136 ci_1 <| ?_
  refine ite_el hf (fun hc10 hf => ?_) (fun hc10 hf => ?_)
  · refine Runs.icY (pc' := 204) d0_137 (tlt hc10).2.2.1 (by decide) <| ?_
    refine Runs.iload d0_204 rfl <| Runs.iconst d0_206 ci_4 <| ?_
    refine ite_el hf (fun hc11 hf => ?_) (fun hc11 hf => ?_)
    · refine Runs.icN d0_207 (tlt hc11).2.2.2 <| ?_
      refine Runs.iload d0_210 rfl <| Runs.bipush d0_212 cb_15 <| ?_
      refine ite_el hf (fun hc12 hf => ?_) (fun hc12 hf => ?_)
      · exact Runs.icN d0_214 (teq hc12).2 <| Runs.forget [true, true, true, true, true, true, true, true, true, true, true, true, true, true, false, true, true, true, false, false, false, false, false] rfl <| L_law_b217_p hs k36 hk36 ob i2 i3 i4 i5 i6 i7 l8 i10 i11 i12 i13 i15 i16 t0 hf
      · refine Runs.icY (pc' := 350) d0_214 (feq hc12).2 (by decide) <| ?_
        refine Runs.iload d0_350 rfl <| Runs.bipush d0_352 cb_7 <| ?_
        refine ite_el hf (fun hc13 hf => ?_) (fun hc13 hf => ?_)
        · refine Runs.icY (pc' := 491) d0_354 (tlt hc13).2.2.1 (by decide) <| ?_
          refine Runs.iload d0_491 rfl <| Runs.bipush d0_493 cb_9 <| ?_
          refine ite_el hf (fun hc14 hf => ?_) (fun hc14 hf => ?_)
          · refine Runs.icY (pc' := 585) d0_495 (tlt hc14).2.2.1 (by decide) <| ?_
            refine Runs.iload d0_585 rfl <| Runs.bipush d0_587 cb_11 <| ?_
            refine ite_el hf (fun hc15 hf => ?_) (fun hc15 hf => ?_)
            · refine Runs.icY (pc' := 696) d0_589 (tlt hc15).2.2.1 (by decide) <| ?_
              refine Runs.iload d0_696 rfl <| Runs.bipush d0_698 cb_12 <| ?_
              refine ite_el hf (fun hc16 hf => ?_) (fun hc16 hf => ?_)
              · refine Runs.icN d0_700 (teq hc16).2 <| ?_
                refine Runs.aloadN d0_703 rfl <| ?_
                refine bind2_el hf fun r17 q18 hg19 hf => ?_
                refine Runs.callV (N := B26) (W := 0) (as := []) (S' := []) d0_704 w173 w174 w175 w176 cw26 ar26 rk0_26_0 (by decide) rfl rfl (X_feedback_pay hg19) <| ans1 <| Runs.iload d0_707 rfl <| ?_
                refine ite_el hf (fun hc20 hf => ?_) (fun hc20 hf => ?_)
                · refine Runs.icY (pc' := 714) d0_709 (teq hc20).1 (by decide) <| ?_
                  exact Runs.iload d0_714 rfl <| Runs.istore (P' := [vr sa, vr C.2.2.1, vi i2, vi i3, vi i4, vi i5, vi i6, vi i6, vl l8, v2, vi i10, vi i11, vi i12, vi i13, vi i14, vi i15, vi i16, vi t0, vn, vn, vn, vn, vn]) d0_716 (by decide) rfl <| Runs.goto (pc' := 769) d0_718 (by decide) <| Runs.forget [true, true, true, true, true, true, true, true, true, true, true, false, false, false, false, false, false, false, false, false, false, false, false] rfl <| L_law_b769_p hs k36 hk36 q18 i2 i3 i4 i5 i6 i6 l8 i10 hf
                · refine Runs.icN d0_709 (feq hc20).1 <| ?_
                  obtain rfl := Option.some.inj hf
                  exact Runs.iconst d0_712 ci_0 <| Runs.retZ (y := (0 : Int32)) d0_713 rfl ⟨by decide, by decide⟩ rfl rfl
              · refine Runs.icY (pc' := 721) d0_700 (feq hc16).2 (by decide) <| ?_
                refine Runs.iload d0_721 rfl <| Runs.bipush d0_723 cb_13 <| ?_
                refine ite_el hf (fun hc21 hf => ?_) (fun hc21 hf => ?_)
                · refine Runs.icN d0_725 (teq hc21).2 <| ?_
                  refine Runs.aloadN d0_728 rfl <| ?_
                  refine bind_el hf fun q22 hg23 hf => ?_
                  refine Runs.callV (N := B22) (W := 0) (as := []) (S' := []) d0_729 w153 w154 w155 w156 cw22 ar22 rk0_22_0 (by decide) rfl rfl (X_crashPublisher_pay hg23) <| ans0 <| Runs.iconst d0_732 ci_0 <| Runs.istoreN (P' := [vr sa, vr C.2.2.1, vi i2, vi (0 : Int32), vi i4, vi i5, vi i6, vi i7, vl l8, v2, vi i10, vi i11, vi i12, vi i13, vi i14, vi i15, vi i16, vi t0, vn, vn, vn, vn, vn]) d0_733 (by decide) rfl <| Runs.iconst d0_734 ci_0 <| Runs.istore (P' := [vr sa, vr C.2.2.1, vi i2, vi (0 : Int32), vi (0 : Int32), vi i5, vi i6, vi i7, vl l8, v2, vi i10, vi i11, vi i12, vi i13, vi i14, vi i15, vi i16, vi t0, vn, vn, vn, vn, vn]) d0_735 (by decide) rfl <| Runs.iload d0_737 rfl <| Runs.istore (P' := [vr sa, vr C.2.2.1, vi i2, vi (0 : Int32), vi (0 : Int32), vi i7, vi i6, vi i7, vl l8, v2, vi i10, vi i11, vi i12, vi i13, vi i14, vi i15, vi i16, vi t0, vn, vn, vn, vn, vn]) d0_739 (by decide) rfl <| Runs.aloadN d0_741 rfl <| Runs.iconst d0_742 ci_3 <| ?_
                  refine bind_el hf fun r24 hg25 hf => ?_
                  refine Runs.callV (N := B8) (W := 0) (as := [.int (3 : Int32)]) (S' := []) d0_743 w90 w91 w92 w93 cw8 ar8 rk0_8_0 (by decide) rfl rfl (X_info_pay hg25) <| ans1 <| ?_
                  refine ite_el hf (fun hc26 hf => ?_) (fun hc26 hf => ?_)
                  · exact Runs.ifY (pc' := 769) d0_746 (teq hc26).1 (by decide) <| Runs.forget [true, true, true, true, true, true, true, true, true, true, true, false, false, false, false, false, false, false, false, false, false, false, false] rfl <| L_law_b769_p hs k36 hk36 q22 i2 (0 : Int32) (0 : Int32) i7 i6 i7 l8 i10 hf
                  · refine Runs.ifN d0_746 (feq hc26).1 <| ?_
                    obtain rfl := Option.some.inj hf
                    exact Runs.iconst d0_749 ci_0 <| Runs.retZ (y := (0 : Int32)) d0_750 rfl ⟨by decide, by decide⟩ rfl rfl
                · refine Runs.icY (pc' := 751) d0_725 (feq hc21).2 (by decide) <| ?_
                  refine Runs.aloadN d0_751 rfl <| ?_
                  refine bind_el hf fun q27 hg28 hf => ?_
                  refine Runs.callV (N := B18) (W := 0) (as := []) (S' := []) d0_752 w135 w136 w137 w138 cw18 ar18 rk0_18_0 (by decide) rfl rfl (X_crashSubscriber_pay hg28) <| ans0 <| Runs.iload d0_755 rfl <| Runs.istore (P' := [vr sa, vr C.2.2.1, vi i2, vi i3, vi i4, vi i7, vi i6, vi i7, vl l8, v2, vi i10, vi i11, vi i12, vi i13, vi i14, vi i15, vi i16, vi t0, vn, vn, vn, vn, vn]) d0_757 (by decide) rfl <| Runs.aloadN d0_759 rfl <| Runs.iconst d0_760 ci_3 <| ?_
                  refine bind_el hf fun r29 hg30 hf => ?_
                  refine Runs.callV (N := B8) (W := 0) (as := [.int (3 : Int32)]) (S' := []) d0_761 w90 w91 w92 w93 cw8 ar8 rk0_8_0 (by decide) rfl rfl (X_info_pay hg30) <| ans1 <| ?_
                  refine ite_el hf (fun hc31 hf => ?_) (fun hc31 hf => ?_)
                  · exact Runs.ifY (pc' := 769) d0_764 (teq hc31).1 (by decide) <| Runs.forget [true, true, true, true, true, true, true, true, true, true, true, false, false, false, false, false, false, false, false, false, false, false, false] rfl <| L_law_b769_p hs k36 hk36 q27 i2 i3 i4 i7 i6 i7 l8 i10 hf
                  · refine Runs.ifN d0_764 (feq hc31).1 <| ?_
                    obtain rfl := Option.some.inj hf
                    exact Runs.iconst d0_767 ci_0 <| Runs.retZ (y := (0 : Int32)) d0_768 rfl ⟨by decide, by decide⟩ rfl rfl
            · refine Runs.icN d0_589 (flt hc15).2.2.1 <| ?_
              refine Runs.aloadN d0_592 rfl <| Runs.iconst d0_593 ci_3 <| ?_
              refine bind_el hf fun r32 hg33 hf => ?_
              refine Runs.callV (N := B8) (W := 0) (as := [.int (3 : Int32)]) (S' := []) d0_594 w90 w91 w92 w93 cw8 ar8 rk0_8_0 (by decide) rfl rfl (X_info_pay hg33) <| ans1 <| Runs.istore (P' := [vr sa, vr C.2.2.1, vi i2, vi i3, vi i4, vi i5, vi i6, vi i7, vl l8, v2, vi i10, vi i11, vi i12, vi i13, vi i14, vi i15, vi i16, vi t0, vi r32, vn, vn, vn, vn]) d0_597 (by decide) rfl <| Runs.iload d0_599 rfl <| Runs.iload d0_601 rfl <| ?_
              refine ite_el hf (fun hc34 hf => ?_) (fun hc34 hf => ?_)
              · refine Runs.icN d0_603 (tlt hc34).2.1 <| ?_
                exact Runs.iload d0_606 rfl <| Runs.goto (pc' := 613) d0_608 (by decide) <| Runs.forget [true, true, true, true, true, true, true, true, true, true, true, false, false, false, true, false, false, false, true, false, false, false, false] rfl <| L_law_b613_p hs k36 hk36 ob i2 i3 i4 i5 i6 i7 l8 i10 i14 r32 i14 hf
              · refine Runs.icY (pc' := 611) d0_603 (flt hc34).2.1 (by decide) <| ?_
                exact Runs.iload d0_611 rfl <| Runs.forget [true, true, true, true, true, true, true, true, true, true, true, false, false, false, true, false, false, false, true, false, false, false, false] rfl <| L_law_b613_p hs k36 hk36 ob i2 i3 i4 i5 i6 i7 l8 i10 i14 r32 r32 hf
          · refine Runs.icN d0_495 (flt hc14).2.2.1 <| ?_
            refine Runs.aloadN d0_498 rfl <| Runs.iconst d0_499 ci_3 <| ?_
            refine bind_el hf fun r35 hg36 hf => ?_
            exact Runs.callV (N := B8) (W := 0) (as := [.int (3 : Int32)]) (S' := []) d0_500 w90 w91 w92 w93 cw8 ar8 rk0_8_0 (by decide) rfl rfl (X_info_pay hg36) <| ans1 <| Runs.istore (P' := [vr sa, vr C.2.2.1, vi i2, vi i3, vi i4, vi i5, vi i6, vi i7, vl l8, v2, vi i10, vi i11, vi i12, vi i13, vi i14, vi i15, vi i16, vi t0, vi r35, vn, vn, vn, vn]) d0_503 (by decide) rfl <| Runs.iconst d0_505 ci_0 <| Runs.istore (P' := [vr sa, vr C.2.2.1, vi i2, vi i3, vi i4, vi i5, vi i6, vi i7, vl l8, v2, vi i10, vi i11, vi i12, vi i13, vi i14, vi i15, vi i16, vi t0, vi r35, vi (0 : Int32), vn, vn, vn]) d0_506 (by decide) rfl <| Runs.iload d0_508 rfl <| Runs.iconst d0_510 ci_1 <| Runs.iadd d0_511 <| Runs.istore (P' := [vr sa, vr C.2.2.1, vi i2, vi i3, vi i4, vi i5, vi i6, vi i7, vl l8, v2, vi i10, vi i11, vi i12, vi i13, vi i14, vi i15, vi i16, vi t0, vi r35, vi (0 : Int32), vi (i5 + (1 : Int32)), vn, vn]) d0_512 (by decide) rfl <| Runs.forget [true, true, true, true, true, true, true, true, true, true, true, false, false, false, true, false, false, false, true, true, true, false, false] rfl <| L_law_l514_p hs k36 hk36 NF ob i2 i3 i4 i5 i6 i7 l8 i10 i14 r35 (0 : Int32) (i5 + (1 : Int32)) hf
        · refine Runs.icN d0_354 (flt hc13).2.2.1 <| ?_
          refine Runs.iload d0_357 rfl <| Runs.bipush d0_359 cb_7 <| ?_
          refine ite_el hf (fun hc37 hf => ?_) (fun hc37 hf => ?_)
          · refine Runs.icN d0_361 (teq hc37).2 <| ?_
            exact Runs.iconst d0_364 ci_1 <| Runs.goto (pc' := 369) d0_365 (by decide) <| Runs.forget [true, true, true, true, true, true, true, true, true, true, true, false, true, false, false, false, true, true, false, false, false, false, false] rfl <| L_law_b369_p hs k36 hk36 ob i2 i3 i4 i5 i6 i7 l8 i10 i12 i16 t0 (1 : Int32) hf
          · refine Runs.icY (pc' := 368) d0_361 (feq hc37).2 (by decide) <| ?_
            exact Runs.iconst d0_368 ci_0 <| Runs.forget [true, true, true, true, true, true, true, true, true, true, true, false, true, false, false, false, true, true, false, false, false, false, false] rfl <| L_law_b369_p hs k36 hk36 ob i2 i3 i4 i5 i6 i7 l8 i10 i12 i16 t0 (0 : Int32) hf
    · exact Runs.icY (pc' := 217) d0_207 (flt hc11).2.2.2 (by decide) <| Runs.forget [true, true, true, true, true, true, true, true, true, true, true, true, true, true, false, true, true, true, false, false, false, false, false] rfl <| L_law_b217_p hs k36 hk36 ob i2 i3 i4 i5 i6 i7 l8 i10 i11 i12 i13 i15 i16 t0 hf
  · refine Runs.icN d0_137 (flt hc10).2.2.1 <| ?_
    refine Runs.iloadN d0_140 rfl <| Runs.iload d0_141 rfl <| Runs.iload d0_143 rfl <| Runs.iconst d0_145 ci_0 <| ?_
    refine bind_el hf fun r38 hg39 hf => ?_
    refine Runs.callS (N := B3) (W := 0) (as := [.int i2, .int i16, .int t0, .int (0 : Int32)]) (S' := []) d0_146 w69 w70 cw3 ar3 rk0_3_0 (by decide) rfl rfl (L_want_pay hg39) <| ans1 <| Runs.istore (P' := [vr sa, vr C.2.2.1, vi i2, vi i3, vi i4, vi i5, vi i6, vi i7, vl l8, v2, vi i10, vi i11, vi i12, vi i13, vi i14, vi i15, vi i16, vi t0, vi r38, vn, vn, vn, vn]) d0_149 (by decide) rfl <| Runs.aloadN d0_151 rfl <| Runs.iload d0_152 rfl <| ?_
    refine bind2_el hf fun r40 q41 hg42 hf => ?_
    refine Runs.callV (N := B11) (W := 0) (as := [.int i12]) (S' := []) d0_154 w104 w105 w106 w107 cw11 ar11 rk0_11_0 (by decide) rfl rfl (X_begin_pay hg42) <| ans1 <| Runs.iload d0_157 rfl <| ?_
    refine ite_el hf (fun hc43 hf => ?_) (fun hc43 hf => ?_)
    · refine Runs.icY (pc' := 164) d0_159 (teq hc43).1 (by decide) <| ?_
      refine Runs.iload d0_164 rfl <| ?_
      refine ite_el hf (fun hc44 hf => ?_) (fun hc44 hf => ?_)
      · refine Runs.ifN d0_166 (tlt hc44).2.2.2 <| ?_
        refine Runs.iload d0_169 rfl <| Runs.istoreN (P' := [vr sa, vr C.2.2.1, vi r38, vi i3, vi i4, vi i5, vi i6, vi i7, vl l8, v2, vi i10, vi i11, vi i12, vi i13, vi i14, vi i15, vi i16, vi t0, vi r38, vn, vn, vn, vn]) d0_171 (by decide) rfl <| Runs.iloadN d0_172 rfl <| Runs.iconst d0_173 ci_1 <| Runs.iload d0_174 rfl <| Runs.ishl d0_176 <| Runs.ior d0_177 <| Runs.istoreN (P' := [vr sa, vr C.2.2.1, vi r38, vi (i3 ||| ((1 : Int32) <<< (i12 &&& 31))), vi i4, vi i5, vi i6, vi i7, vl l8, v2, vi i10, vi i11, vi i12, vi i13, vi i14, vi i15, vi i16, vi t0, vi r38, vn, vn, vn, vn]) d0_178 (by decide) rfl <| Runs.iinc (P' := [vr sa, vr C.2.2.1, vi r38, vi (i3 ||| ((1 : Int32) <<< (i12 &&& 31))), vi (i4 + (1 : Int32)), vi i5, vi i6, vi i7, vl l8, v2, vi i10, vi i11, vi i12, vi i13, vi i14, vi i15, vi i16, vi t0, vi r38, vn, vn, vn, vn]) d0_179 ci_1 rfl (by decide) rfl <| Runs.aloadN d0_182 rfl <| Runs.iloadN d0_183 rfl <| ?_
        refine bind_el hf fun r45 hg46 hf => ?_
        refine Runs.callV (N := B10) (W := 0) (as := [.int r38]) (S' := []) d0_184 w99 w100 w101 w102 cw10 ar10 rk0_10_0 (by decide) rfl rfl (X_logRecord_pay hg46) <| ans1 <| Runs.iconst d0_187 ci_1 <| Runs.iload d0_188 rfl <| Runs.iconst d0_190 ci_0 <| Runs.iconst d0_191 ci_0 <| ?_
        refine bind_el hf fun r47 hg48 hf => ?_
        refine Runs.callS (N := B14) (W := 2) (as := [.int (1 : Int32), .int i12, .int (0 : Int32), .int (0 : Int32)]) (S' := [.long r45]) d0_192 w118 w119 cw14 ar14 rk0_14_2 (by decide) rfl rfl (L_rec_pay hg48) <| ans1 <| Runs.lcmp d0_195 <| ?_
        refine ite_el hf (fun hc49 hf => ?_) (fun hc49 hf => ?_)
        · refine Runs.ifY (pc' := 201) d0_196 (teq ((lw_eq _ _).mpr hc49)).1 (by decide) <| ?_
          exact Runs.goto (pc' := 769) d0_201 (by decide) <| Runs.forget [true, true, true, true, true, true, true, true, true, true, true, false, false, false, false, false, false, false, false, false, false, false, false] rfl <| L_law_b769_p hs k36 hk36 q41 r38 (i3 ||| ((1 : Int32) <<< (i12 &&& 31))) (i4 + (1 : Int32)) i5 i6 i7 l8 i10 hf
        · refine Runs.ifN d0_196 (feq (fun u => hc49 ((lw_eq _ _).mp u))).1 <| ?_
          obtain rfl := Option.some.inj hf
          exact Runs.iconst d0_199 ci_0 <| Runs.retZ (y := (0 : Int32)) d0_200 rfl ⟨by decide, by decide⟩ rfl rfl
      · refine Runs.ifY (pc' := 201) d0_166 (flt hc44).2.2.2 (by decide) <| ?_
        exact Runs.goto (pc' := 769) d0_201 (by decide) <| Runs.forget [true, true, true, true, true, true, true, true, true, true, true, false, false, false, false, false, false, false, false, false, false, false, false] rfl <| L_law_b769_p hs k36 hk36 q41 i2 i3 i4 i5 i6 i7 l8 i10 hf
    · refine Runs.icN d0_159 (feq hc43).1 <| ?_
      obtain rfl := Option.some.inj hf
      exact Runs.iconst d0_162 ci_0 <| Runs.retZ (y := (0 : Int32)) d0_163 rfl ⟨by decide, by decide⟩ rfl rfl
def L_law_b110 (NF : Nat) (z : Int32) (f : Int32 → Int32) (k36 : Rec → Int32 → Int32 → Int32 → Int32 → Int32 → Int32 → Int64 → Int32 → Option (Int32)) (ob : Rec) (i2 : Int32) (i3 : Int32) (i4 : Int32) (i5 : Int32) (i6 : Int32) (i7 : Int32) (l8 : Int64) (i10 : Int32) (i11 : Int32) (i12 : Int32) (i13 : Int32) (i14 : Int32) (i15 : Int32) (t0 : Int32) : Option (Int32) :=
  if t0 = (0 : Int32) then
    L_law_b132 NF z f k36 ob i2 i3 i4 i5 i6 i7 l8 i10 i11 i12 i13 i14 i15 t0 (0 : Int32)
  else
    if ((i3 >>> (i12 &&& 31)) &&& (1 : Int32)) = (1 : Int32) then
      L_law_b132 NF z f k36 ob i2 i3 i4 i5 i6 i7 l8 i10 i11 i12 i13 i14 i15 t0 (1 : Int32)
    else
      L_law_b132 NF z f k36 ob i2 i3 i4 i5 i6 i7 l8 i10 i11 i12 i13 i14 i15 t0 (0 : Int32)
set_option maxRecDepth 65536 in
set_option maxHeartbeats 4000000 in
theorem L_law_b110_p {C : Ctx} {sa : Nat} {z : Int32} {f : Int32 → Int32} (hs : ScrF C sa z f) {res : Int32} {NF : Nat} (k36 : Rec → Int32 → Int32 → Int32 → Int32 → Int32 → Int32 → Int64 → Int32 → Option (Int32)) (hk36 : ∀ (ob : Rec) (i2 : Int32) (i3 : Int32) (i4 : Int32) (i5 : Int32) (i6 : Int32) (i7 : Int32) (l8 : Int64) (i10 : Int32), k36 ob i2 i3 i4 i5 i6 i7 l8 i10 = some res → Runs C B0 18 1392 36 [vr sa, vr C.2.2.1, vi i2, vi i3, vi i4, vi i5, vi i6, vi i7, vl l8, v2, vi i10, vn, vn, vn, vn, vn, vn, vn, vn, vn, vn, vn, vn] [] (C.2.2.1 + 1 + 17, (C.2.2.1, 17, ob) :: []) (fun v _ => v = (some (.int res)))) (ob : Rec) (i2 : Int32) (i3 : Int32) (i4 : Int32) (i5 : Int32) (i6 : Int32) (i7 : Int32) (l8 : Int64) (i10 : Int32) (i11 : Int32) (i12 : Int32) (i13 : Int32) (i14 : Int32) (i15 : Int32) (t0 : Int32) (hf : L_law_b110 NF z f k36 ob i2 i3 i4 i5 i6 i7 l8 i10 i11 i12 i13 i14 i15 t0 = some res) : Runs C B0 18 1392 110 [vr sa, vr C.2.2.1, vi i2, vi i3, vi i4, vi i5, vi i6, vi i7, vl l8, v2, vi i10, vi i11, vi i12, vi i13, vi i14, vi i15, vn, vn, vn, vn, vn, vn, vn] [.int t0] (C.2.2.1 + 1 + 17, (C.2.2.1, 17, ob) :: []) (fun v _ => v = (some (.int res))) := by
  delta L_law_b110 at hf
  refine Runs.istore (P' := [vr sa, vr C.2.2.1, vi i2, vi i3, vi i4, vi i5, vi i6, vi i7, vl l8, v2, vi i10, vi i11, vi i12, vi i13, vi i14, vi i15, vi t0, vn, vn, vn, vn, vn, vn]) d0_110 (by decide) rfl <| Runs.iload d0_112 rfl <| ?_
  refine ite_el hf (fun hc8 hf => ?_) (fun hc8 hf => ?_)
  · refine Runs.ifY (pc' := 131) d0_114 (teq hc8).1 (by decide) <| ?_
    exact Runs.iconst d0_131 ci_0 <| L_law_b132_p hs k36 hk36 ob i2 i3 i4 i5 i6 i7 l8 i10 i11 i12 i13 i14 i15 t0 (0 : Int32) hf
  · refine Runs.ifN d0_114 (feq hc8).1 <| ?_
    refine Runs.iloadN d0_117 rfl <| Runs.iload d0_118 rfl <| Runs.ishr d0_120 <| Runs.iconst d0_121 ci_1 <| Runs.iand d0_122 <| Runs.iconst d0_123 ci_1 <| ?_
    refine ite_el hf (fun hc9 hf => ?_) (fun hc9 hf => ?_)
    · refine Runs.icN d0_124 (teq hc9).2 <| ?_
      exact Runs.iconst d0_127 ci_1 <| Runs.goto (pc' := 132) d0_128 (by decide) <| L_law_b132_p hs k36 hk36 ob i2 i3 i4 i5 i6 i7 l8 i10 i11 i12 i13 i14 i15 t0 (1 : Int32) hf
    · refine Runs.icY (pc' := 131) d0_124 (feq hc9).2 (by decide) <| ?_
      exact Runs.iconst d0_131 ci_0 <| L_law_b132_p hs k36 hk36 ob i2 i3 i4 i5 i6 i7 l8 i10 i11 i12 i13 i14 i15 t0 (0 : Int32) hf
def L_law_w36 (NF : Nat) (z : Int32) (f : Int32 → Int32) (k36 : Rec → Int32 → Int32 → Int32 → Int32 → Int32 → Int32 → Int64 → Int32 → Option (Int32)) (ob : Rec) (i2 : Int32) (i3 : Int32) (i4 : Int32) (i5 : Int32) (i6 : Int32) (i7 : Int32) (l8 : Int64) (i10 : Int32) : Option (Int32) :=
  if (i10 + (3 : Int32)) < z then
    chk z i10 <|
    chk z (i10 + (1 : Int32)) <|
    chk z (i10 + (2 : Int32)) <|
    chk z (i10 + (2 : Int32)) <|
    chk z (i10 + (3 : Int32)) <|
    if (((f (i10 + (1 : Int32))) &&& (7 : Int32)) % (5 : Int32)) < (4 : Int32) then
      L_law_b110 NF z f k36 ob i2 i3 i4 i5 i6 i7 l8 i10 ((f i10) &&& (15 : Int32)) (((f (i10 + (1 : Int32))) &&& (7 : Int32)) % (5 : Int32)) (((f (i10 + (2 : Int32))) &&& (15 : Int32)) % (9 : Int32)) ((f (i10 + (2 : Int32))) &&& (3 : Int32)) (f (i10 + (3 : Int32))) (1 : Int32)
    else
      L_law_b110 NF z f k36 ob i2 i3 i4 i5 i6 i7 l8 i10 ((f i10) &&& (15 : Int32)) (((f (i10 + (1 : Int32))) &&& (7 : Int32)) % (5 : Int32)) (((f (i10 + (2 : Int32))) &&& (15 : Int32)) % (9 : Int32)) ((f (i10 + (2 : Int32))) &&& (3 : Int32)) (f (i10 + (3 : Int32))) (0 : Int32)
  else
    some (1 : Int32)
def L_law_l36 (NF : Nat) (z : Int32) (f : Int32 → Int32) : Nat → Rec → Int32 → Int32 → Int32 → Int32 → Int32 → Int32 → Int64 → Int32 → Option (Int32)
  | 0, _, _, _, _, _, _, _, _, _ => none
  | n + 1, ob, i2, i3, i4, i5, i6, i7, l8, i10 => L_law_w36 NF z f (L_law_l36 NF z f n) ob i2 i3 i4 i5 i6 i7 l8 i10
set_option maxRecDepth 65536 in
set_option maxHeartbeats 4000000 in
theorem L_law_w36_p {C : Ctx} {sa : Nat} {z : Int32} {f : Int32 → Int32} (hs : ScrF C sa z f) {res : Int32} {NF : Nat} (k36 : Rec → Int32 → Int32 → Int32 → Int32 → Int32 → Int32 → Int64 → Int32 → Option (Int32)) (hk36 : ∀ (ob : Rec) (i2 : Int32) (i3 : Int32) (i4 : Int32) (i5 : Int32) (i6 : Int32) (i7 : Int32) (l8 : Int64) (i10 : Int32), k36 ob i2 i3 i4 i5 i6 i7 l8 i10 = some res → Runs C B0 18 1392 36 [vr sa, vr C.2.2.1, vi i2, vi i3, vi i4, vi i5, vi i6, vi i7, vl l8, v2, vi i10, vn, vn, vn, vn, vn, vn, vn, vn, vn, vn, vn, vn] [] (C.2.2.1 + 1 + 17, (C.2.2.1, 17, ob) :: []) (fun v _ => v = (some (.int res)))) (ob : Rec) (i2 : Int32) (i3 : Int32) (i4 : Int32) (i5 : Int32) (i6 : Int32) (i7 : Int32) (l8 : Int64) (i10 : Int32) (hf : L_law_w36 NF z f k36 ob i2 i3 i4 i5 i6 i7 l8 i10 = some res) : Runs C B0 18 1392 36 [vr sa, vr C.2.2.1, vi i2, vi i3, vi i4, vi i5, vi i6, vi i7, vl l8, v2, vi i10, vn, vn, vn, vn, vn, vn, vn, vn, vn, vn, vn, vn] [] (C.2.2.1 + 1 + 17, (C.2.2.1, 17, ob) :: []) (fun v _ => v = (some (.int res))) := by
  delta L_law_w36 at hf
  refine Runs.iload d0_36 rfl <| Runs.iconst d0_38 ci_3 <| Runs.iadd d0_39 <| Runs.aloadN d0_40 rfl <| Runs.lenS hs d0_41 <| ?_
  refine ite_el hf (fun hc1 hf => ?_) (fun hc1 hf => ?_)
  · refine Runs.icN d0_42 (tlt hc1).2.1 <| ?_
    refine Runs.aloadN d0_45 rfl <| Runs.iload d0_46 rfl <| ?_
    refine chk_el hf fun hi2 hf => ?_
    refine Runs.ialoadS hs d0_48 hi2 <| Runs.bipush d0_49 cb_15 <| Runs.iand d0_51 <| Runs.istore (P' := [vr sa, vr C.2.2.1, vi i2, vi i3, vi i4, vi i5, vi i6, vi i7, vl l8, v2, vi i10, vi ((f i10) &&& (15 : Int32)), vn, vn, vn, vn, vn, vn, vn, vn, vn, vn, vn]) d0_52 (by decide) rfl <| Runs.aloadN d0_54 rfl <| Runs.iload d0_55 rfl <| Runs.iconst d0_57 ci_1 <| Runs.iadd d0_58 <| ?_
    refine chk_el hf fun hi3 hf => ?_
    refine Runs.ialoadS hs d0_59 hi3 <| Runs.bipush d0_60 cb_7 <| Runs.iand d0_62 <| Runs.iconst d0_63 ci_5 <| Runs.irem d0_64 (by decide) <| Runs.istore (P' := [vr sa, vr C.2.2.1, vi i2, vi i3, vi i4, vi i5, vi i6, vi i7, vl l8, v2, vi i10, vi ((f i10) &&& (15 : Int32)), vi (((f (i10 + (1 : Int32))) &&& (7 : Int32)) % (5 : Int32)), vn, vn, vn, vn, vn, vn, vn, vn, vn, vn]) d0_65 (by decide) rfl <| Runs.aloadN d0_67 rfl <| Runs.iload d0_68 rfl <| Runs.iconst d0_70 ci_2 <| Runs.iadd d0_71 <| ?_
    refine chk_el hf fun hi4 hf => ?_
    refine Runs.ialoadS hs d0_72 hi4 <| Runs.bipush d0_73 cb_15 <| Runs.iand d0_75 <| Runs.bipush d0_76 cb_9 <| Runs.irem d0_78 (by decide) <| Runs.istore (P' := [vr sa, vr C.2.2.1, vi i2, vi i3, vi i4, vi i5, vi i6, vi i7, vl l8, v2, vi i10, vi ((f i10) &&& (15 : Int32)), vi (((f (i10 + (1 : Int32))) &&& (7 : Int32)) % (5 : Int32)), vi (((f (i10 + (2 : Int32))) &&& (15 : Int32)) % (9 : Int32)), vn, vn, vn, vn, vn, vn, vn, vn, vn]) d0_79 (by decide) rfl <| Runs.aloadN d0_81 rfl <| Runs.iload d0_82 rfl <| Runs.iconst d0_84 ci_2 <| Runs.iadd d0_85 <| ?_
    refine chk_el hf fun hi5 hf => ?_
    refine Runs.ialoadS hs d0_86 hi5 <| Runs.iconst d0_87 ci_3 <| Runs.iand d0_88 <| Runs.istore (P' := [vr sa, vr C.2.2.1, vi i2, vi i3, vi i4, vi i5, vi i6, vi i7, vl l8, v2, vi i10, vi ((f i10) &&& (15 : Int32)), vi (((f (i10 + (1 : Int32))) &&& (7 : Int32)) % (5 : Int32)), vi (((f (i10 + (2 : Int32))) &&& (15 : Int32)) % (9 : Int32)), vi ((f (i10 + (2 : Int32))) &&& (3 : Int32)), vn, vn, vn, vn, vn, vn, vn, vn]) d0_89 (by decide) rfl <| Runs.aloadN d0_91 rfl <| Runs.iload d0_92 rfl <| Runs.iconst d0_94 ci_3 <| Runs.iadd d0_95 <| ?_
    refine chk_el hf fun hi6 hf => ?_
    refine Runs.ialoadS hs d0_96 hi6 <| Runs.istore (P' := [vr sa, vr C.2.2.1, vi i2, vi i3, vi i4, vi i5, vi i6, vi i7, vl l8, v2, vi i10, vi ((f i10) &&& (15 : Int32)), vi (((f (i10 + (1 : Int32))) &&& (7 : Int32)) % (5 : Int32)), vi (((f (i10 + (2 : Int32))) &&& (15 : Int32)) % (9 : Int32)), vi ((f (i10 + (2 : Int32))) &&& (3 : Int32)), vi (f (i10 + (3 : Int32))), vn, vn, vn, vn, vn, vn, vn]) d0_97 (by decide) rfl <| Runs.iload d0_99 rfl <| Runs.iconst d0_101 ci_4 <| ?_
    refine ite_el hf (fun hc7 hf => ?_) (fun hc7 hf => ?_)
    · refine Runs.icN d0_102 (tlt hc7).2.1 <| ?_
      exact Runs.iconst d0_105 ci_1 <| Runs.goto (pc' := 110) d0_106 (by decide) <| L_law_b110_p hs k36 hk36 ob i2 i3 i4 i5 i6 i7 l8 i10 ((f i10) &&& (15 : Int32)) (((f (i10 + (1 : Int32))) &&& (7 : Int32)) % (5 : Int32)) (((f (i10 + (2 : Int32))) &&& (15 : Int32)) % (9 : Int32)) ((f (i10 + (2 : Int32))) &&& (3 : Int32)) (f (i10 + (3 : Int32))) (1 : Int32) hf
    · refine Runs.icY (pc' := 109) d0_102 (flt hc7).2.1 (by decide) <| ?_
      exact Runs.iconst d0_109 ci_0 <| L_law_b110_p hs k36 hk36 ob i2 i3 i4 i5 i6 i7 l8 i10 ((f i10) &&& (15 : Int32)) (((f (i10 + (1 : Int32))) &&& (7 : Int32)) % (5 : Int32)) (((f (i10 + (2 : Int32))) &&& (15 : Int32)) % (9 : Int32)) ((f (i10 + (2 : Int32))) &&& (3 : Int32)) (f (i10 + (3 : Int32))) (0 : Int32) hf
  · refine Runs.icY (pc' := 848) d0_42 (flt hc1).2.1 (by decide) <| ?_
    obtain rfl := Option.some.inj hf
    exact Runs.iconst d0_848 ci_1 <| Runs.retZ (y := (1 : Int32)) d0_849 rfl ⟨by decide, by decide⟩ rfl rfl
theorem L_law_l36_p {C : Ctx} {sa : Nat} {z : Int32} {f : Int32 → Int32} (hs : ScrF C sa z f) {res : Int32} {NF : Nat} (n : Nat) (ob : Rec) (i2 : Int32) (i3 : Int32) (i4 : Int32) (i5 : Int32) (i6 : Int32) (i7 : Int32) (l8 : Int64) (i10 : Int32) (hf : L_law_l36 NF z f n ob i2 i3 i4 i5 i6 i7 l8 i10 = some res) : Runs C B0 18 1392 36 [vr sa, vr C.2.2.1, vi i2, vi i3, vi i4, vi i5, vi i6, vi i7, vl l8, v2, vi i10, vn, vn, vn, vn, vn, vn, vn, vn, vn, vn, vn, vn] [] (C.2.2.1 + 1 + 17, (C.2.2.1, 17, ob) :: []) (fun v _ => v = (some (.int res))) := by
  induction n generalizing ob i2 i3 i4 i5 i6 i7 l8 i10 with
  | zero => cases (show (none : Option (Int32)) = some res from hf)
  | succ n ih => exact L_law_w36_p hs (L_law_l36 NF z f n) (fun ob i2 i3 i4 i5 i6 i7 l8 i10 h => ih _ _ _ _ _ _ _ _ _ h) ob i2 i3 i4 i5 i6 i7 l8 i10 hf
def L_law (NF : Nat) (z : Int32) (f : Int32 → Int32) : Option (Int32) :=
  (X_init (8 : Int32) (4 : Int32) (64 : Int32) (2 : Int32)).bind fun q132 =>
  L_law_l36 NF z f NF q132 (0 : Int32) (0 : Int32) (0 : Int32) (0 : Int32) (0 : Int32) (0 : Int32) (0 : Int64) (0 : Int32)
set_option maxRecDepth 65536 in
set_option maxHeartbeats 4000000 in
theorem L_law_p {C : Ctx} {sa : Nat} {z : Int32} {f : Int32 → Int32} (hs : ScrF C sa z f) {res : Int32} {NF : Nat} (hf : L_law NF z f = some res) : Runs C B0 0 0 0 [vr sa, vn, vn, vn, vn, vn, vn, vn, vn, vn, vn, vn, vn, vn, vn, vn, vn, vn, vn, vn, vn, vn, vn] [] (C.2.2.1, []) (fun v _ => v = (some (.int res))) := by
  delta L_law at hf
  refine Runs.newK (k' := 1) (n' := 27) d0_0 w0 ⟨by decide, by decide⟩ rfl rfl (by intro x hx; cases hx) <| Runs.dup d0_3 rfl <| Runs.bipush d0_4 cb_8 <| Runs.iconst d0_6 ci_4 <| Runs.bipush d0_7 cb_64 <| Runs.iconst d0_9 ci_2 <| ?_
  refine bind_el hf fun q132 hg133 hf => ?_
  refine Runs.callI (N := B1) (k' := 18) (n' := 1392) (W := 1) (as := [.int (8 : Int32), .int (4 : Int32), .int (64 : Int32), .int (2 : Int32)]) (S' := [.ref C.2.2.1]) d0_10 rfl rfl w3 w4 cw1 ar1 (by decide) rfl rfl rfl rfl (X_init_pay hg133) <| ans0 <| Runs.astoreN (P' := [vr sa, vr C.2.2.1, vn, vn, vn, vn, vn, vn, vn, vn, vn, vn, vn, vn, vn, vn, vn, vn, vn, vn, vn, vn, vn]) d0_13 (by decide) rfl <| Runs.iconst d0_14 ci_0 <| Runs.istoreN (P' := [vr sa, vr C.2.2.1, vi (0 : Int32), vn, vn, vn, vn, vn, vn, vn, vn, vn, vn, vn, vn, vn, vn, vn, vn, vn, vn, vn, vn]) d0_15 (by decide) rfl <| Runs.iconst d0_16 ci_0 <| Runs.istoreN (P' := [vr sa, vr C.2.2.1, vi (0 : Int32), vi (0 : Int32), vn, vn, vn, vn, vn, vn, vn, vn, vn, vn, vn, vn, vn, vn, vn, vn, vn, vn, vn]) d0_17 (by decide) rfl <| Runs.iconst d0_18 ci_0 <| Runs.istore (P' := [vr sa, vr C.2.2.1, vi (0 : Int32), vi (0 : Int32), vi (0 : Int32), vn, vn, vn, vn, vn, vn, vn, vn, vn, vn, vn, vn, vn, vn, vn, vn, vn, vn]) d0_19 (by decide) rfl <| Runs.iconst d0_21 ci_0 <| Runs.istore (P' := [vr sa, vr C.2.2.1, vi (0 : Int32), vi (0 : Int32), vi (0 : Int32), vi (0 : Int32), vn, vn, vn, vn, vn, vn, vn, vn, vn, vn, vn, vn, vn, vn, vn, vn, vn]) d0_22 (by decide) rfl <| Runs.iconst d0_24 ci_0 <| Runs.istore (P' := [vr sa, vr C.2.2.1, vi (0 : Int32), vi (0 : Int32), vi (0 : Int32), vi (0 : Int32), vi (0 : Int32), vn, vn, vn, vn, vn, vn, vn, vn, vn, vn, vn, vn, vn, vn, vn, vn]) d0_25 (by decide) rfl <| ?_
  exact Runs.iconst d0_27 ci_0 <| Runs.istore (P' := [vr sa, vr C.2.2.1, vi (0 : Int32), vi (0 : Int32), vi (0 : Int32), vi (0 : Int32), vi (0 : Int32), vi (0 : Int32), vn, vn, vn, vn, vn, vn, vn, vn, vn, vn, vn, vn, vn, vn, vn]) d0_28 (by decide) rfl <| Runs.lconst d0_30 cl_0 <| Runs.lstore (P' := [vr sa, vr C.2.2.1, vi (0 : Int32), vi (0 : Int32), vi (0 : Int32), vi (0 : Int32), vi (0 : Int32), vi (0 : Int32), vl (0 : Int64), v2, vn, vn, vn, vn, vn, vn, vn, vn, vn, vn, vn, vn, vn]) d0_31 (by decide) rfl <| Runs.iconst d0_33 ci_0 <| Runs.istore (P' := [vr sa, vr C.2.2.1, vi (0 : Int32), vi (0 : Int32), vi (0 : Int32), vi (0 : Int32), vi (0 : Int32), vi (0 : Int32), vl (0 : Int64), v2, vi (0 : Int32), vn, vn, vn, vn, vn, vn, vn, vn, vn, vn, vn, vn]) d0_34 (by decide) rfl <| L_law_l36_p hs NF q132 (0 : Int32) (0 : Int32) (0 : Int32) (0 : Int32) (0 : Int32) (0 : Int32) (0 : Int64) (0 : Int32) hf
theorem L_law_pay {C : Ctx} {sa : Nat} {z : Int32} {f : Int32 → Int32} (hs : ScrF C sa z f) {res : Int32} {NF : Nat} (hf : L_law NF z f = some res) : Pays C B0 [.ref sa] (C.2.2.1, []) (fun v _ => v = (some (.int res))) :=
  Pays.of pnL (Nat.le_of_ble_eq_true rfl) (P := [vr sa, vn, vn, vn, vn, vn, vn, vn, vn, vn, vn, vn, vn, vn, vn, vn, vn, vn, vn, vn, vn, vn, vn]) 22 rfl (L_law_p hs hf)
-- no word: X_info at 79: method #157
-- no word: X_info at 84: method #160
--OWED--
theorem gI_sI (ob : Rec) (k j : Nat) (v : Int32) : gI (sI ob k v) j = if j = k then v else gI ob j := rfl
theorem gI_sA (ob : Rec) (k j : Nat) (i v : Int32) : gI (sA ob k i v) j = gI ob j := rfl
theorem gI_sJ (ob : Rec) (k j : Nat) (i : Int32) (v : Int64) : gI (sJ ob k i v) j = gI ob j := rfl
theorem gA_sI (ob : Rec) (k j : Nat) (v x : Int32) : gA (sI ob k v) j x = gA ob j x := rfl
theorem gA_sA (ob : Rec) (k j : Nat) (i v x : Int32) : gA (sA ob k i v) j x = if j = k ∧ x = i then v else gA ob j x := rfl
theorem gA_sJ (ob : Rec) (k j : Nat) (i x : Int32) (v : Int64) : gA (sJ ob k i v) j x = gA ob j x := rfl
theorem gJ_sI (ob : Rec) (k j : Nat) (v x : Int32) : gJ (sI ob k v) j x = gJ ob j x := rfl
theorem gJ_sA (ob : Rec) (k j : Nat) (i v x : Int32) : gJ (sA ob k i v) j x = gJ ob j x := rfl
theorem gJ_sJ (ob : Rec) (k j : Nat) (i x : Int32) (v : Int64) : gJ (sJ ob k i v) j x = if j = k ∧ x = i then v else gJ ob j x := rfl
theorem gI_z (k : Nat) : gI zrec k = 0 := rfl
theorem gA_z (k : Nat) (i : Int32) : gA zrec k i = 0 := rfl
theorem gJ_z (k : Nat) (i : Int32) : gJ zrec k i = 0 := rfl
theorem chk_ok {γ : Type} {n i : Int32} {A : Option γ} (h : 0 ≤ i.toInt ∧ i.toInt < n.toInt) : chk n i A = A := by
  have h0 : ¬ i < 0 := by rw [Int32.lt_iff_toInt_lt]; show ¬ i.toInt < 0; omega
  have h1 : i < n := by rw [Int32.lt_iff_toInt_lt]; exact h.2
  unfold chk; rw [if_neg h0, if_pos h1]
theorem lt_i {x y : Int32} : x < y ↔ x.toInt < y.toInt := Int32.lt_iff_toInt_lt
theorem le_i {x y : Int32} : x ≤ y ↔ x.toInt ≤ y.toInt := Int32.le_iff_toInt_le
theorem eq_i32 {x y : Int32} : x = y ↔ x.toInt = y.toInt := Int32.toInt_inj.symm
theorem bm_id {n : Int} (h : -2147483648 ≤ n ∧ n < 2147483648) : n.bmod (2 ^ 32) = n := Int.bmod_eq_of_le (by omega) (by omega)
theorem ad {x y : Int32} (h : -2147483648 ≤ x.toInt + y.toInt ∧ x.toInt + y.toInt < 2147483648) : (x + y).toInt = x.toInt + y.toInt := by rw [Int32.toInt_add, bm_id h]
theorem sb {x y : Int32} (h : -2147483648 ≤ x.toInt - y.toInt ∧ x.toInt - y.toInt < 2147483648) : (x - y).toInt = x.toInt - y.toInt := by rw [Int32.toInt_sub, bm_id h]
theorem ml {x y : Int32} (h : -2147483648 ≤ x.toInt * y.toInt ∧ x.toInt * y.toInt < 2147483648) : (x * y).toInt = x.toInt * y.toInt := by rw [Int32.toInt_mul, bm_id h]
theorem bind2_some {α β γ : Type} (a : α) (b : β) (f : α → β → Option γ) : bind2 (some (a, b)) f = f a b := rfl
theorem and_b (x m : Int32) (k : Nat) (hm : m.toBitVec.toNat = k) (hk : k < 2147483648) : 0 ≤ (x &&& m).toInt ∧ (x &&& m).toInt ≤ (k : Int) := by
  have h1 : (x &&& m).toBitVec.toNat = x.toBitVec.toNat &&& m.toBitVec.toNat := by rw [Int32.toBitVec_and, BitVec.toNat_and]
  have h2 : (x &&& m).toBitVec.toNat ≤ k := by rw [h1, hm]; exact Nat.and_le_right
  have h3 : (x &&& m).toInt = ((x &&& m).toBitVec.toNat : Int) := by
    show (x &&& m).toBitVec.toInt = _
    exact BitVec.toInt_eq_toNat_of_lt (by omega)
  rw [h3]; omega
theorem mem8 (x : Int32) : (x &&& 7) ∈ ([0, 1, 2, 3, 4, 5, 6, 7] : List Int32) := by
  have h := and_b x 7 7 rfl (by omega)
  simp only [List.mem_cons, eq_i32, Int32.reduceToInt, List.not_mem_nil, or_false]
  omega
theorem mem2 (x : Int32) : (x &&& 1) ∈ ([0, 1] : List Int32) := by
  have h := and_b x 1 1 rfl (by omega)
  simp only [List.mem_cons, eq_i32, Int32.reduceToInt, List.not_mem_nil, or_false]
  omega
theorem dv {x y : Int32} (hx : 0 ≤ x.toInt) (hy : 0 < y.toInt) : (x / y).toInt = x.toInt / y.toInt := by
  rw [Int32.toInt_div, Int.tdiv_eq_ediv_of_nonneg hx]
  have h1 : x.toInt / y.toInt ≤ x.toInt := Int.ediv_le_self _ hx
  have h2 : 0 ≤ x.toInt / y.toInt := Int.ediv_nonneg hx (by omega)
  have h3 := x.toInt_lt
  exact Int.bmod_eq_of_le (by omega) (by omega)
theorem md {x y : Int32} (hx : 0 ≤ x.toInt) (_ : 0 < y.toInt) : (x % y).toInt = x.toInt % y.toInt := by
  rw [Int32.toInt_mod, Int.tmod_eq_emod_of_nonneg hx]
def n32 (n : Nat) : Int32 := Int32.ofInt (n : Int)
theorem nt (n : Nat) (h : n < 100000) : (n32 n).toInt = n := by
  unfold n32; rw [Int32.toInt_ofInt]; exact bm_id (by omega)
theorem n32_t (x : Int32) (h : 0 ≤ x.toInt) : n32 x.toInt.toNat = x := by
  unfold n32; rw [Int.toNat_of_nonneg h, Int32.ofInt_toInt]
def cN (f : Nat → Bool) : Nat → Nat
  | 0 => 0
  | n + 1 => cN f n + (if f n then 1 else 0)
theorem cN_le {f g : Nat → Bool} : ∀ n, (∀ i, i < n → f i = true → g i = true) → cN f n ≤ cN g n
  | 0, _ => Nat.le_refl 0
  | n + 1, h => by
    have h1 := cN_le n (fun i hi => h i (by omega))
    have h2 := h n (by omega)
    show cN f n + _ ≤ cN g n + _
    cases hf : f n
    · simp; omega
    · rw [h2 hf]; simp; omega
theorem cN_eq {f g : Nat → Bool} (n : Nat) (h : ∀ i, i < n → f i = g i) : cN f n = cN g n :=
  Nat.le_antisymm (cN_le n (fun i hi e => (h i hi) ▸ e)) (cN_le n (fun i hi e => (h i hi).symm ▸ e))
theorem cN_set {f g : Nat → Bool} {j : Nat} (fj : f j = false) (gj : g j = true) : ∀ n, j < n → (∀ i, i < n → i ≠ j → g i = f i) → cN g n = cN f n + 1
  | 0, h, _ => absurd h (by omega)
  | n + 1, h, e => by
    show cN g n + _ = cN f n + _ + 1
    by_cases c : j = n
    · subst c
      rw [cN_eq j (fun i hi => e i (by omega) (by omega)), fj, gj]; simp
    · rw [cN_set fj gj n (by omega) (fun i hi => e i (by omega)), e n (by omega) (fun h => c h.symm)]; omega
theorem cN_lt {f g : Nat → Bool} {j : Nat} (n : Nat) (hj : j < n) (fj : f j = false) (gj : g j = true) (h : ∀ i, i < n → f i = true → g i = true) : cN f n + 1 ≤ cN g n := by
  have := cN_set (f := f) (g := fun i => if i = j then true else f i) fj (by simp) n hj (fun i _ c => by simp [c])
  rw [← this]
  apply cN_le
  intro i hi e
  by_cases c : i = j
  · rw [c]; exact gj
  · simp only [c, if_false] at e; exact h i hi e
theorem cN_full {f : Nat → Bool} : ∀ n m, m ≤ n → (∀ i, i < m → f i = true) → m ≤ cN f n
  | 0, m, h, _ => by omega
  | n + 1, m, h, e => by
    show m ≤ cN f n + _
    by_cases c : m ≤ n
    · have := cN_full n m c e; omega
    · have := cN_full n n (Nat.le_refl n) (fun i hi => e i (by omega))
      rw [e n (by omega)]; simp; omega
abbrev In (n : Int) (x : Int32) : Prop := 0 ≤ x.toInt ∧ x.toInt < n
theorem neg_i {x : Int32} : x < 0 ↔ x.toInt < 0 := by rw [lt_i]; exact Iff.rfl
theorem nneg {x : Int32} (h : 0 ≤ x.toInt) : ¬ x < 0 := by rw [neg_i]; omega
theorem nneg' {x : Int32} (h : ¬ x < 0) : 0 ≤ x.toInt := by rw [neg_i] at h; omega
theorem s1 {i : Int32} (h : 0 ≤ i.toInt ∧ i.toInt < 100000) : (i + 1).toInt = i.toInt + 1 := by
  rw [ad (by show -2147483648 ≤ i.toInt + 1 ∧ i.toInt + 1 < 2147483648; omega)]; rfl
theorem ckn {γ : Type} {n : Int32} {m : Int} {i : Int32} {A : Option γ} (hm : n.toInt = m) (h : In m i) : chk n i A = A := chk_ok (by rw [hm]; exact h)
theorem ltn {x y : Int32} {m : Int} (hm : y.toInt = m) (h : x.toInt < m) : x < y := by rw [lt_i, hm]; exact h
theorem nltn {x y : Int32} {m : Int} (hm : y.toInt = m) (h : ¬ x.toInt < m) : ¬ x < y := by rw [lt_i, hm]; exact h
theorem cN_b (f : Nat → Bool) : ∀ n, cN f n ≤ n
  | 0 => Nat.le_refl 0
  | n + 1 => by
    have := cN_b f n
    show cN f n + _ ≤ n + 1
    split <;> omega
theorem cN_pos {f : Nat → Bool} {j : Nat} (n : Nat) (hj : j < n) (fj : f j = true) : 1 ≤ cN f n := by
  have z : ∀ n, cN (fun _ => false) n = 0 := fun n => by induction n with
    | zero => rfl
    | succ n ih => show cN (fun _ => false) n + _ = 0; rw [ih]; rfl
  have := cN_lt (f := fun _ => false) (g := f) n hj rfl fj (fun _ _ e => by simp at e)
  rw [z] at this; exact this
theorem ni {i n : Nat} (h : i < n) (hn : n ≤ 1000) : In (n : Int) (n32 i) := by
  rw [In, nt i (by omega)]; omega
theorem n32_inj {i j : Nat} (hi : i < 1000) (hj : j < 1000) (e : n32 i = n32 j) : i = j := by
  have := congrArg Int32.toInt e
  rw [nt i (by omega), nt j (by omega)] at this; omega
abbrev Lg : Type := Nat → Nat → Int32
abbrev Tb : Type := Nat → Option Int32
abbrev Pd : Type := Nat → Option (Option Int32)
abbrev Msg : Type := Int32 × Int32 × Int32 × Int32
def mt (lg : Lg) (s : Int32) (p : Nat) : Bool := decide (lg 1 p = s ∧ (lg 0 p = 2 ∨ lg 0 p = 3))
def eff (lg : Lg) (p : Nat) : Option Int32 := if lg 0 p = 2 then some (lg 3 p) else none
def st1 (lg : Lg) (s : Int32) (p : Nat) (T : Tb) : Tb := if mt lg s p then (fun k => if k = (lg 2 p).toInt.toNat then eff lg p else T k) else T
def apx (lg : Lg) (s : Int32) (p : Nat) : Nat → Tb → Tb
  | 0, T => T
  | n + 1, T => st1 lg s (p + n) (apx lg s p n T)
def st2 (lg : Lg) (s : Int32) (p : Nat) (P : Pd) : Pd := if mt lg s p then (fun k => if k = (lg 2 p).toInt.toNat then some (eff lg p) else P k) else P
def pnx (lg : Lg) (s : Int32) (p : Nat) : Nat → Pd
  | 0 => fun _ => none
  | n + 1 => st2 lg s (p + n) (pnx lg s p n)
def apd (P : Pd) (T : Tb) : Tb := fun k => match P k with
  | none => T k
  | some x => x
theorem apx_pnx (lg : Lg) (s : Int32) (p : Nat) (T : Tb) : ∀ n, apx lg s p n T = apd (pnx lg s p n) T
  | 0 => rfl
  | n + 1 => by
    show st1 lg s (p + n) (apx lg s p n T) = apd (st2 lg s (p + n) (pnx lg s p n)) T
    rw [apx_pnx lg s p T n]
    unfold st1 st2
    cases mt lg s (p + n)
    · rfl
    · funext k
      show (if k = _ then _ else _) = match (if k = _ then _ else _) with | none => T k | some x => x
      by_cases c : k = (lg 2 (p + n)).toInt.toNat
      · rw [if_pos c, if_pos c]
      · rw [if_neg c, if_neg c]; rfl
def bg (lg : Lg) (c : Nat) : Nat := (lg 4 c).toInt.toNat
def rp (lg : Lg) : Nat → Tb
  | 0 => fun _ => none
  | n + 1 => if lg 0 (n + 1) = 4 then apx lg (lg 1 (n + 1)) (bg lg (n + 1) + 1) (n + 1 - (bg lg (n + 1) + 1)) (rp lg n) else rp lg n
def msg (lg : Lg) (c p : Nat) : Msg := (lg 0 p, lg 2 p, lg 3 p, n32 c)
def msx (lg : Lg) (s : Int32) (c p : Nat) : Nat → List Msg
  | 0 => []
  | n + 1 => msx lg s c p n ++ (if mt lg s (p + n) then [msg lg c (p + n)] else [])
def cmsg (c : Nat) : Msg := (4, 0, 0, n32 c)
def tx (lg : Lg) (c : Nat) : List Msg := msx lg (lg 1 c) c (bg lg c + 1) (c - (bg lg c + 1)) ++ [cmsg c]
def em (lg : Lg) (e : Nat) : Nat → List Msg
  | 0 => []
  | n + 1 => em lg e n ++ (if lg 0 (e + n + 1) = 4 then tx lg (e + n + 1) else [])
def cl (lg : Lg) : Nat → Nat → Bool
  | 0, _ => false
  | n + 1, p => cl lg n p || (decide (lg 0 (n + 1) = 4) && (decide (p = n + 1) || (decide (bg lg (n + 1) < p ∧ p < n + 1) && mt lg (lg 1 (n + 1)) p)))
/-- two logs that agree up to n -/
abbrev Ag (lg lg' : Lg) (n : Nat) : Prop := ∀ j p, p ≤ n → lg' j p = lg j p
theorem Ag.mono {lg lg' : Lg} {n m : Nat} (h : Ag lg lg' n) (hm : m ≤ n) : Ag lg lg' m := fun j p hp => h j p (by omega)
theorem mt_a {lg lg' : Lg} {n : Nat} (h : Ag lg lg' n) (s : Int32) {p : Nat} (hp : p ≤ n) : mt lg' s p = mt lg s p := by unfold mt; rw [h 1 p hp, h 0 p hp]
theorem eff_a {lg lg' : Lg} {n : Nat} (h : Ag lg lg' n) {p : Nat} (hp : p ≤ n) : eff lg' p = eff lg p := by unfold eff; rw [h 3 p hp, h 0 p hp]
theorem apx_a {lg lg' : Lg} {n : Nat} (h : Ag lg lg' n) (s : Int32) (p : Nat) (T : Tb) : ∀ m, p + m ≤ n + 1 → apx lg' s p m T = apx lg s p m T
  | 0, _ => rfl
  | m + 1, hm => by
    show st1 lg' s (p + m) (apx lg' s p m T) = st1 lg s (p + m) (apx lg s p m T)
    rw [apx_a h s p T m (by omega)]
    unfold st1
    rw [mt_a h s (by omega), h 2 _ (by omega), eff_a h (by omega)]
theorem pnx_a {lg lg' : Lg} {n : Nat} (h : Ag lg lg' n) (s : Int32) (p : Nat) : ∀ m, p + m ≤ n + 1 → pnx lg' s p m = pnx lg s p m
  | 0, _ => rfl
  | m + 1, hm => by
    show st2 lg' s (p + m) (pnx lg' s p m) = st2 lg s (p + m) (pnx lg s p m)
    rw [pnx_a h s p m (by omega)]
    unfold st2
    rw [mt_a h s (by omega), h 2 _ (by omega), eff_a h (by omega)]
theorem bg_a {lg lg' : Lg} {n : Nat} (h : Ag lg lg' n) {c : Nat} (hc : c ≤ n) : bg lg' c = bg lg c := by unfold bg; rw [h 4 c hc]
theorem rp_a {lg lg' : Lg} {n : Nat} (h : Ag lg lg' n) : ∀ m, m ≤ n → rp lg' m = rp lg m
  | 0, _ => rfl
  | m + 1, hm => by
    show (if lg' 0 (m + 1) = 4 then apx lg' (lg' 1 (m + 1)) (bg lg' (m + 1) + 1) (m + 1 - (bg lg' (m + 1) + 1)) (rp lg' m) else rp lg' m) = (if lg 0 (m + 1) = 4 then apx lg (lg 1 (m + 1)) (bg lg (m + 1) + 1) (m + 1 - (bg lg (m + 1) + 1)) (rp lg m) else rp lg m)
    rw [rp_a h m (by omega), h 0 (m + 1) hm, h 1 (m + 1) hm, bg_a h hm]
    split
    · by_cases c : bg lg (m + 1) + 1 ≤ m + 1
      · rw [apx_a h _ _ _ _ (by omega)]
      · have : m + 1 - (bg lg (m + 1) + 1) = 0 := by omega
        rw [this]; rfl
    · rfl
theorem msx_a {lg lg' : Lg} {n : Nat} (h : Ag lg lg' n) (s : Int32) (c p : Nat) : ∀ m, p + m ≤ n + 1 → msx lg' s c p m = msx lg s c p m
  | 0, _ => rfl
  | m + 1, hm => by
    show msx lg' s c p m ++ _ = msx lg s c p m ++ _
    rw [msx_a h s c p m (by omega), mt_a h s (by omega)]
    unfold msg
    rw [h 0 _ (by omega), h 2 _ (by omega), h 3 _ (by omega)]
theorem tx_a {lg lg' : Lg} {n : Nat} (h : Ag lg lg' n) {c : Nat} (hc : c ≤ n) : tx lg' c = tx lg c := by
  unfold tx
  rw [bg_a h hc, h 1 c hc]
  by_cases d : bg lg c + 1 ≤ c
  · rw [msx_a h _ _ _ _ (by omega)]
  · have : c - (bg lg c + 1) = 0 := by omega
    rw [this]; rfl
theorem em_a {lg lg' : Lg} {n : Nat} (h : Ag lg lg' n) (e : Nat) : ∀ m, e + m ≤ n → em lg' e m = em lg e m
  | 0, _ => rfl
  | m + 1, hm => by
    show em lg' e m ++ _ = em lg e m ++ _
    rw [em_a h e m (by omega), h 0 _ (by omega), tx_a h (by omega)]
theorem cl_a {lg lg' : Lg} {n : Nat} (h : Ag lg lg' n) : ∀ m, m ≤ n → ∀ p, cl lg' m p = cl lg m p
  | 0, _, _ => rfl
  | m + 1, hm, p => by
    show (cl lg' m p || _) = (cl lg m p || _)
    rw [cl_a h m (by omega) p, h 0 (m + 1) hm, h 1 (m + 1) hm, bg_a h hm]
    by_cases c : bg lg (m + 1) < p ∧ p < m + 1
    · rw [mt_a h _ (show p ≤ n by omega)]
    · simp [c]
theorem msx_cons (lg : Lg) (s : Int32) (c : Nat) : ∀ n p, msx lg s c p (n + 1) = (if mt lg s p then [msg lg c p] else []) ++ msx lg s c (p + 1) n
  | 0, p => by show [] ++ _ = _ ++ []; simp
  | n + 1, p => by
    show msx lg s c p (n + 1) ++ _ = _ ++ (msx lg s c (p + 1) n ++ _)
    rw [msx_cons lg s c n p, List.append_assoc]
    have : p + (n + 1) = p + 1 + n := by omega
    rw [this]
theorem msx_first (lg : Lg) (s : Int32) (c : Nat) : ∀ n p, (msx lg s c p n = [] ∧ ∀ i, p ≤ i → i < p + n → mt lg s i = false) ∨ (∃ i, p ≤ i ∧ i < p + n ∧ mt lg s i = true ∧ (∀ j, p ≤ j → j < i → mt lg s j = false) ∧ msx lg s c p n = msg lg c i :: msx lg s c (i + 1) (p + n - (i + 1)))
  | 0, p => Or.inl ⟨rfl, fun i a b => by omega⟩
  | n + 1, p => by
    rw [msx_cons]
    cases h : mt lg s p
    · rcases msx_first lg s c n (p + 1) with ⟨a, b⟩ | ⟨i, a, b, d, e, f⟩
      · left
        refine ⟨by simpa using a, fun i x y => ?_⟩
        by_cases z : i = p
        · rw [z]; exact h
        · exact b i (by omega) (by omega)
      · right
        refine ⟨i, by omega, by omega, d, fun j x y => ?_, ?_⟩
        · by_cases z : j = p
          · rw [z]; exact h
          · exact e j (by omega) y
        · have : p + (n + 1) - (i + 1) = p + 1 + n - (i + 1) := by omega
          rw [this, ← f]; rfl
    · right
      refine ⟨p, by omega, by omega, h, fun j x y => by omega, ?_⟩
      have : p + (n + 1) - (p + 1) = n := by omega
      rw [this]; rfl
theorem pnx_skip (lg : Lg) (s : Int32) (b : Nat) : ∀ n m, (∀ j, b + n ≤ j → j < b + n + m → mt lg s j = false) → pnx lg s b (n + m) = pnx lg s b n
  | n, 0, _ => rfl
  | n, m + 1, h => by
    show st2 lg s (b + (n + m)) (pnx lg s b (n + m)) = _
    rw [pnx_skip lg s b n m (fun j x y => h j x (by omega))]
    unfold st2
    rw [h (b + (n + m)) (by omega) (by omega)]; rfl
theorem em_first (lg : Lg) (e : Nat) : ∀ n, (em lg e n = [] ∧ ∀ j, e < j → j ≤ e + n → ¬ lg 0 j = 4) ∨ (∃ c, e < c ∧ c ≤ e + n ∧ lg 0 c = 4 ∧ (∀ j, e < j → j < c → ¬ lg 0 j = 4) ∧ em lg e n = tx lg c ++ em lg c (e + n - c))
  | 0 => Or.inl ⟨rfl, fun j a b => by omega⟩
  | n + 1 => by
    rcases em_first lg e n with ⟨a, b⟩ | ⟨c, x, y, z, w, v⟩
    · by_cases k : lg 0 (e + n + 1) = 4
      · right
        refine ⟨e + n + 1, by omega, by omega, k, fun j p q => b j p (by omega), ?_⟩
        show em lg e n ++ (if lg 0 (e + n + 1) = 4 then _ else _) = _
        have : e + (n + 1) - (e + n + 1) = 0 := by omega
        rw [a, if_pos k, this]
        show [] ++ _ = _ ++ []
        simp
      · left
        refine ⟨?_, fun j p q => ?_⟩
        · show em lg e n ++ (if lg 0 (e + n + 1) = 4 then _ else _) = _
          rw [a, if_neg k]; rfl
        · by_cases d : j = e + n + 1
          · rw [d]; exact k
          · exact b j p (by omega)
    · right
      refine ⟨c, x, by omega, z, w, ?_⟩
      show em lg e n ++ _ = _
      have h1 : e + (n + 1) - c = (e + n - c) + 1 := by omega
      have h2 : c + (e + n - c) + 1 = e + n + 1 := by omega
      rw [v, h1, List.append_assoc]
      show _ = tx lg c ++ (em lg c (e + n - c) ++ (if lg 0 (c + (e + n - c) + 1) = 4 then tx lg (c + (e + n - c) + 1) else []))
      rw [h2]
/-- what the log keeps -/
abbrev LW (lg : Lg) (L : Nat) : Prop := (∀ p, 1 ≤ p → p ≤ L → (lg 0 p = 2 ∨ lg 0 p = 3) → 0 ≤ (lg 2 p).toInt ∧ (lg 2 p).toInt < 8) ∧ (∀ c, 1 ≤ c → c ≤ L → lg 0 c = 4 → 1 ≤ bg lg c ∧ bg lg c < c ∧ lg 0 (bg lg c) = 1 ∧ lg 1 (bg lg c) = lg 1 c ∧ (∀ p, bg lg c < p → p < c → lg 1 p = lg 1 c → lg 0 p = 2 ∨ lg 0 p = 3))
theorem LW.ky {lg : Lg} {L : Nat} (h : LW lg L) : ∀ p, 1 ≤ p → p ≤ L → (lg 0 p = 2 ∨ lg 0 p = 3) → 0 ≤ (lg 2 p).toInt ∧ (lg 2 p).toInt < 8 := h.1
theorem LW.cm {lg : Lg} {L : Nat} (h : LW lg L) : ∀ c, 1 ≤ c → c ≤ L → lg 0 c = 4 → 1 ≤ bg lg c ∧ bg lg c < c ∧ lg 0 (bg lg c) = 1 ∧ lg 1 (bg lg c) = lg 1 c ∧ (∀ p, bg lg c < p → p < c → lg 1 p = lg 1 c → lg 0 p = 2 ∨ lg 0 p = 3) := h.2
abbrev QS (lg : Lg) (E A : Nat) (l : List Msg) (P : Pd) : Prop :=
  (∃ e, e ≤ E ∧ e ≤ A ∧ l = em lg e (E - e) ∧ P = fun _ => none) ∨
  (∃ c p, lg 0 c = 4 ∧ 1 ≤ c ∧ c ≤ E ∧ bg lg c < p ∧ p ≤ c ∧ l = msx lg (lg 1 c) c p (c - p) ++ (cmsg c :: em lg c (E - c)) ∧
    ((c ≤ A ∧ P = fun _ => none) ∨ (A < c ∧ (∀ j, A < j → j < c → ¬ lg 0 j = 4) ∧ P = pnx lg (lg 1 c) (bg lg c + 1) (p - (bg lg c + 1)))))
theorem rp_skip (lg : Lg) : ∀ n A, (∀ j, A < j → j ≤ A + n → ¬ lg 0 j = 4) → rp lg (A + n) = rp lg A
  | 0, A, _ => rfl
  | n + 1, A, h => by
    show (if lg 0 (A + n + 1) = 4 then _ else rp lg (A + n)) = _
    rw [if_neg (h (A + n + 1) (by omega) (by omega))]
    exact rp_skip lg n A (fun j x y => h j x (by omega))
/-- the first message handled -/
theorem QS_step {lg : Lg} {E A : Nat} {m : Msg} {l : List Msg} {P : Pd} (h : QS lg E A (m :: l) P) (hw : LW lg E) :
    ∃ c, 1 ≤ c ∧ c ≤ E ∧ lg 0 c = 4 ∧ m.2.2.2 = n32 c ∧
      ((c ≤ A ∧ QS lg E A l P) ∨ (A < c ∧ m.1 = 4 ∧ QS lg E c l (fun _ => none) ∧ rp lg c = apd P (rp lg A)) ∨
       (A < c ∧ (m.1 = 2 ∨ m.1 = 3) ∧ (0 ≤ m.2.1.toInt ∧ m.2.1.toInt < 8) ∧ QS lg E A l (fun k => if k = m.2.1.toInt.toNat then some (if m.1 = 2 then some m.2.2.1 else none) else P k))) := by
  have h2 : ∃ c p, lg 0 c = 4 ∧ 1 ≤ c ∧ c ≤ E ∧ bg lg c < p ∧ p ≤ c ∧ m :: l = msx lg (lg 1 c) c p (c - p) ++ (cmsg c :: em lg c (E - c)) ∧
    ((c ≤ A ∧ P = fun _ => none) ∨ (A < c ∧ (∀ j, A < j → j < c → ¬ lg 0 j = 4) ∧ P = pnx lg (lg 1 c) (bg lg c + 1) (p - (bg lg c + 1)))) := by
    rcases h with ⟨e, e1, e2, e3, e4⟩ | h
    · rcases em_first lg e (E - e) with ⟨x, -⟩ | ⟨c, x, y, z, w, v⟩
      · rw [x] at e3; cases e3
      · have cm := hw.cm c (by omega) (by omega) z
        have q : e + (E - e) - c = E - c := by omega
        rw [q] at v
        refine ⟨c, bg lg c + 1, z, by omega, by omega, by omega, by omega, ?_, ?_⟩
        · rw [e3, v]; unfold tx; rw [List.append_assoc]; rfl
        · by_cases d : c ≤ A
          · exact Or.inl ⟨d, e4⟩
          · refine Or.inr ⟨by omega, fun j a b => w j (by omega) b, ?_⟩
            rw [Nat.sub_self]; exact e4
    · exact h
  obtain ⟨c, p, k4, c1, cE, bp, pc, el, hp⟩ := h2
  have cm := hw.cm c c1 cE k4
  refine ⟨c, c1, cE, k4, ?_⟩
  rcases msx_first lg (lg 1 c) c (c - p) p with ⟨x, y⟩ | ⟨i, x, y, z, w, v⟩
  · rw [x] at el
    have el' : m :: l = cmsg c :: em lg c (E - c) := el
    injection el' with em1 em2
    rw [em1, em2]
    refine ⟨rfl, ?_⟩
    rcases hp with ⟨a, b⟩ | ⟨a, b, d⟩
    · exact Or.inl ⟨a, Or.inl ⟨c, cE, a, rfl, b⟩⟩
    · refine Or.inr (Or.inl ⟨a, rfl, Or.inl ⟨c, cE, Nat.le_refl c, rfl, rfl⟩, ?_⟩)
      obtain ⟨n, rfl⟩ : ∃ n, c = n + 1 := ⟨c - 1, by omega⟩
      show (if lg 0 (n + 1) = 4 then _ else _) = _
      rw [if_pos k4, apx_pnx]
      have r1 : rp lg n = rp lg A := by
        have := rp_skip lg (n - A) A (fun j u v => b j u (by omega))
        rw [show A + (n - A) = n by omega] at this; exact this
      have r2 : pnx lg (lg 1 (n + 1)) (bg lg (n + 1) + 1) (n + 1 - (bg lg (n + 1) + 1)) = P := by
        rw [d]
        have s := pnx_skip lg (lg 1 (n + 1)) (bg lg (n + 1) + 1) (p - (bg lg (n + 1) + 1)) (n + 1 - p) (fun j u v => y j (by omega) (by omega))
        rw [show p - (bg lg (n + 1) + 1) + (n + 1 - p) = n + 1 - (bg lg (n + 1) + 1) by omega] at s
        exact s
      rw [r1, r2]
  · rw [v] at el
    have el' : m :: l = msg lg c i :: (msx lg (lg 1 c) c (i + 1) (p + (c - p) - (i + 1)) ++ (cmsg c :: em lg c (E - c))) := el
    injection el' with em1 em2
    have hi : lg 1 i = lg 1 c ∧ (lg 0 i = 2 ∨ lg 0 i = 3) := of_decide_eq_true z
    have q : p + (c - p) - (i + 1) = c - (i + 1) := by omega
    rw [q] at em2
    have kb := hw.ky i (by omega) (by omega) hi.2
    refine ⟨by rw [em1]; rfl, ?_⟩
    rcases hp with ⟨a, b⟩ | ⟨a, b, d⟩
    · exact Or.inl ⟨a, Or.inr ⟨c, i + 1, k4, c1, cE, by omega, by omega, em2, Or.inl ⟨a, b⟩⟩⟩
    · refine Or.inr (Or.inr ⟨a, by rw [em1]; exact hi.2, by rw [em1]; exact kb, Or.inr ⟨c, i + 1, k4, c1, cE, by omega, by omega, em2, Or.inr ⟨a, b, ?_⟩⟩⟩)
      have e1 : i + 1 - (bg lg c + 1) = (i - (bg lg c + 1)) + 1 := by omega
      have e2 : bg lg c + 1 + (i - (bg lg c + 1)) = i := by omega
      have s := pnx_skip lg (lg 1 c) (bg lg c + 1) (p - (bg lg c + 1)) (i - p) (fun j u v => w j (by omega) (by omega))
      rw [show p - (bg lg c + 1) + (i - p) = i - (bg lg c + 1) by omega] at s
      rw [e1]
      show _ = st2 lg (lg 1 c) (bg lg c + 1 + (i - (bg lg c + 1))) (pnx lg (lg 1 c) (bg lg c + 1) (i - (bg lg c + 1)))
      rw [e2, s, ← d]
      unfold st2
      rw [if_pos z, em1]
      rfl
theorem em_app (lg : Lg) (e : Nat) : ∀ n, em lg 0 (e + n) = em lg 0 e ++ em lg e n
  | 0 => by show em lg 0 e = em lg 0 e ++ []; simp
  | n + 1 => by
    show em lg 0 (e + n) ++ (if lg 0 (0 + (e + n) + 1) = 4 then tx lg (0 + (e + n) + 1) else []) = em lg 0 e ++ (em lg e n ++ (if lg 0 (e + n + 1) = 4 then tx lg (e + n + 1) else []))
    rw [em_app lg e n, List.append_assoc, Nat.zero_add]
/-- one more transaction sent -/
theorem QS_emit {lg : Lg} {E A c : Nat} {l : List Msg} {P : Pd} (h : QS lg E A l P) (hc : E < c) (k4 : lg 0 c = 4) (hn : ∀ j, E < j → j < c → ¬ lg 0 j = 4) : QS lg c A (l ++ tx lg c) P := by
  have g : ∀ e, e ≤ E → em lg e (c - e) = em lg e (E - e) ++ tx lg c := by
    intro e he
    have f : ∀ n, E + n < c → em lg e (E + n - e) = em lg e (E - e) := by
      intro n
      induction n with
      | zero => intro _; rfl
      | succ n ih =>
        intro hh
        have : E + (n + 1) - e = (E + n - e) + 1 := by omega
        rw [this]
        show em lg e (E + n - e) ++ (if lg 0 (e + (E + n - e) + 1) = 4 then _ else _) = _
        rw [ih (by omega), if_neg (hn _ (by omega) (by omega))]; simp
    have : c - e = (c - 1 - e) + 1 := by omega
    rw [this]
    show em lg e (c - 1 - e) ++ (if lg 0 (e + (c - 1 - e) + 1) = 4 then tx lg (e + (c - 1 - e) + 1) else []) = _
    rw [show e + (c - 1 - e) + 1 = c by omega, if_pos k4]
    have := f (c - 1 - E) (by omega)
    rw [show E + (c - 1 - E) - e = c - 1 - e by omega] at this
    rw [this]
  rcases h with ⟨e, e1, e2, e3, e4⟩ | ⟨d, p, k, d1, dE, bp, pc, el, hp⟩
  · exact Or.inl ⟨e, by omega, e2, by rw [g e e1, e3], e4⟩
  · refine Or.inr ⟨d, p, k, d1, by omega, bp, pc, ?_, hp⟩
    rw [el, g d dE, List.append_assoc]; rfl
theorem QS_a {lg lg' : Lg} {n E A : Nat} {l : List Msg} {P : Pd} (ag : Ag lg lg' n) (hE : E ≤ n) (hA : A ≤ n) (h : QS lg E A l P) : QS lg' E A l P := by
  rcases h with ⟨e, e1, e2, e3, e4⟩ | ⟨c, p, k, c1, cE, bp, pc, el, hp⟩
  · exact Or.inl ⟨e, e1, e2, by rw [em_a ag e _ (by omega)]; exact e3, e4⟩
  · refine Or.inr ⟨c, p, by rw [ag 0 c (by omega)]; exact k, c1, cE, by rw [bg_a ag (by omega)]; exact bp, pc, ?_, ?_⟩
    · rw [ag 1 c (by omega), msx_a ag _ _ _ _ (by omega), em_a ag _ _ (by omega)]; exact el
    · rcases hp with x | ⟨a, b, d⟩
      · exact Or.inl x
      · refine Or.inr ⟨a, fun j u v => by rw [ag 0 j (by omega)]; exact b j u v, ?_⟩
        rw [ag 1 c (by omega), bg_a ag (by omega), pnx_a ag _ _ _ (by omega)]; exact d
theorem cN_or {f g : Nat → Bool} : ∀ n, (∀ i, i < n → f i = true → g i = false) → cN (fun i => f i || g i) n = cN f n + cN g n
  | 0, _ => rfl
  | n + 1, h => by
    show cN (fun i => f i || g i) n + (if (f n || g n) = true then 1 else 0) = cN f n + (if f n = true then 1 else 0) + (cN g n + (if g n = true then 1 else 0))
    rw [cN_or n (fun i hi => h i (by omega))]
    have := h n (by omega)
    cases hf : f n <;> cases hg : g n
    · show cN f n + cN g n + 0 = cN f n + 0 + (cN g n + 0)
      omega
    · show cN f n + cN g n + 1 = cN f n + 0 + (cN g n + 1)
      omega
    · show cN f n + cN g n + 1 = cN f n + 1 + (cN g n + 0)
      omega
    · rw [this hf] at hg; exact absurd hg (by decide)
theorem msx_len (lg : Lg) (s : Int32) (c b : Nat) : ∀ n, (msx lg s c b n).length = cN (fun i => decide (b ≤ i) && mt lg s i) (b + n)
  | 0 => by
    have z : ∀ m, m ≤ b → cN (fun i => decide (b ≤ i) && mt lg s i) m = 0 := by
      intro m
      induction m with
      | zero => intro _; rfl
      | succ m ih =>
        intro hm
        show cN (fun i => decide (b ≤ i) && mt lg s i) m + (if (decide (b ≤ m) && mt lg s m) = true then 1 else 0) = 0
        rw [ih (by omega), decide_eq_false (by omega)]; rfl
    show 0 = _
    exact (z b (Nat.le_refl b)).symm
  | n + 1 => by
    show (msx lg s c b n ++ (if mt lg s (b + n) then [msg lg c (b + n)] else [])).length = cN (fun i => decide (b ≤ i) && mt lg s i) (b + n) + (if (decide (b ≤ b + n) && mt lg s (b + n)) = true then 1 else 0)
    rw [List.length_append, msx_len lg s c b n, decide_eq_true (by omega)]
    cases mt lg s (b + n) <;> rfl
/-- no message is sent twice: a bound of the queue -/
theorem cl_tx {lg : Lg} {c : Nat} (hw : LW lg c) (k4 : lg 0 c = 4) (c1 : 1 ≤ c) : cN (cl lg c) (c + 1) = cN (cl lg (c - 1)) c + (tx lg c).length := by
  obtain ⟨n, rfl⟩ : ∃ n, c = n + 1 := ⟨c - 1, by omega⟩
  have cm := hw.cm (n + 1) c1 (Nat.le_refl _) k4
  have old : ∀ m, m ≤ n → ∀ p, cl lg m p = true → 1 ≤ p ∧ p ≤ m ∧ ¬ (bg lg (n + 1) < p ∧ mt lg (lg 1 (n + 1)) p = true) := by
    intro m
    induction m with
    | zero => intro _ p e; exact absurd e (by simp [cl])
    | succ m ih =>
      intro hm p e
      have e' : (cl lg m p || (decide (lg 0 (m + 1) = 4) && (decide (p = m + 1) || (decide (bg lg (m + 1) < p ∧ p < m + 1) && mt lg (lg 1 (m + 1)) p)))) = true := e
      rcases Bool.or_eq_true _ _ ▸ e' with e1 | e1
      · have := ih (by omega) p e1
        exact ⟨this.1, by omega, this.2.2⟩
      · rw [Bool.and_eq_true, decide_eq_true_eq] at e1
        obtain ⟨k, e2⟩ := e1
        have cm' := hw.cm (m + 1) (by omega) (by omega) k
        rcases Bool.or_eq_true _ _ ▸ e2 with e3 | e3
        · have e3' := of_decide_eq_true e3
          refine ⟨by omega, by omega, fun x => ?_⟩
          have := of_decide_eq_true x.2
          rw [e3'] at this
          rw [k] at this
          rcases this.2 with y | y <;> exact absurd y (by decide)
        · rw [Bool.and_eq_true, decide_eq_true_eq] at e3
          obtain ⟨e4, e5⟩ := e3
          refine ⟨by omega, by omega, fun x => ?_⟩
          have x2 := (of_decide_eq_true x.2).1
          have x3 := (of_decide_eq_true e5).1
          -- the commit at m + 1 lies in the later one's span, of the same slot
          have := cm.2.2.2.2 (m + 1) (by omega) (by omega) (x3.symm.trans x2)
          rw [k] at this
          rcases this with y | y <;> exact absurd y (by decide)
  have e1 : cN (cl lg (n + 1)) (n + 1 + 1) = cN (fun i => cl lg n i || (decide (i = n + 1) || (decide (bg lg (n + 1) < i ∧ i < n + 1) && mt lg (lg 1 (n + 1)) i))) (n + 1 + 1) := by
    apply cN_eq
    intro i _
    show (cl lg n i || (decide (lg 0 (n + 1) = 4) && _)) = _
    rw [decide_eq_true k4, Bool.true_and]
  have e2 := cN_or (f := cl lg n) (g := fun i => decide (i = n + 1) || (decide (bg lg (n + 1) < i ∧ i < n + 1) && mt lg (lg 1 (n + 1)) i)) (n + 1 + 1) (fun i hi e => by
    have o := old n (Nat.le_refl _) i e
    show (decide (i = n + 1) || (decide (bg lg (n + 1) < i ∧ i < n + 1) && mt lg (lg 1 (n + 1)) i)) = false
    rw [decide_eq_false (by omega)]
    cases h : mt lg (lg 1 (n + 1)) i
    · simp
    · rw [decide_eq_false (fun x => o.2.2 ⟨x.1, h⟩)]; rfl)
  have e3 : cN (cl lg n) (n + 1 + 1) = cN (cl lg n) (n + 1) := by
    show cN (cl lg n) (n + 1) + (if cl lg n (n + 1) = true then 1 else 0) = _
    rw [if_neg (fun e => by have := old n (Nat.le_refl _) (n + 1) e; omega)]; rfl
  have e4 : cN (fun i => decide (i = n + 1) || (decide (bg lg (n + 1) < i ∧ i < n + 1) && mt lg (lg 1 (n + 1)) i)) (n + 1 + 1) = (tx lg (n + 1)).length := by
    unfold tx
    rw [List.length_append, msx_len, show bg lg (n + 1) + 1 + (n + 1 - (bg lg (n + 1) + 1)) = n + 1 by omega]
    show cN _ (n + 1) + (if (decide (n + 1 = n + 1) || _) = true then 1 else 0) = _ + 1
    rw [decide_eq_true rfl, Bool.true_or, if_pos rfl]
    congr 1
    apply cN_eq
    intro i hi
    rw [decide_eq_false (by omega), Bool.false_or]
    congr 1
    by_cases d : bg lg (n + 1) < i
    · rw [decide_eq_true ⟨d, hi⟩, decide_eq_true (by omega)]
    · rw [decide_eq_false (fun x => d x.1), decide_eq_false (by omega)]
  rw [e1, e2, e3, e4]; rfl
theorem cl_skip {lg : Lg} {E : Nat} : ∀ m, (∀ j, E < j → j ≤ E + m → ¬ lg 0 j = 4) → ∀ p, cl lg (E + m) p = cl lg E p
  | 0, _, _ => rfl
  | m + 1, h, p => by
    show (cl lg (E + m) p || (decide (lg 0 (E + m + 1) = 4) && _)) = _
    rw [decide_eq_false (h (E + m + 1) (by omega) (by omega)), Bool.false_and, Bool.or_false]
    exact cl_skip m (fun j x y => h j x (by omega)) p
def lgo (ob : Rec) : Lg := fun j p => if j ≤ 4 then gA ob j (n32 p) else 0
theorem lgo_c {ob r : Rec} (h : ∀ k x, k ≤ 4 → gA r k x = gA ob k x) : lgo r = lgo ob := funext fun j => funext fun p => by
  unfold lgo
  by_cases c : j ≤ 4
  · rw [if_pos c, if_pos c, h j _ c]
  · rw [if_neg c, if_neg c]
def tv (ob : Rec) (a b : Nat) (k : Nat) : Option Int32 := if gA ob a (n32 k) = 0 then none else some (gA ob b (n32 k))
def pv (ob : Rec) (k : Nat) : Option (Option Int32) := if gA ob 11 (n32 k) = 1 then some (some (gA ob 12 (n32 k))) else if gA ob 11 (n32 k) = 2 then some none else none
def qi (h i : Nat) : Int32 := n32 ((h + i) % 128)
def qm (ob : Rec) (x : Int32) : Msg := (gA ob 13 x, gA ob 14 x, gA ob 15 x, gA ob 16 x)
abbrev QL (ob : Rec) (l : List Msg) : Prop := ∃ h, h < 128 ∧ gI ob 8 = n32 h ∧ gI ob 9 = n32 l.length ∧ l.length ≤ 128 ∧ ∀ i, i < l.length → l[i]? = some (qm ob (qi h i))
abbrev LI (ob : Rec) (ns cap : Int32) (L : Nat) : Prop := (gI ob 0 = 8 ∧ gI ob 1 = ns ∧ gI ob 2 = cap) ∧ (gI ob 4 = n32 L) ∧ ((L : Int) ≤ cap.toInt) ∧ (LW (lgo ob) L) ∧ (∀ p, 1 ≤ p → p ≤ L → (1 ≤ (lgo ob 0 p).toInt ∧ (lgo ob 0 p).toInt ≤ 5) ∧ In ns.toInt (lgo ob 1 p) ∧ In 8 (lgo ob 2 p)) ∧ (∀ s, In 8 s → ¬ gA ob 5 s = 0 → s.toInt < ns.toInt ∧ ∃ b, 1 ≤ b ∧ b ≤ L ∧ gA ob 6 s = n32 b ∧ lgo ob 0 b = 1 ∧ lgo ob 1 b = s ∧ ∀ p, b < p → p ≤ L → lgo ob 1 p = s → lgo ob 0 p = 2 ∨ lgo ob 0 p = 3) ∧ (∀ k, k < 8 → tv ob 7 8 k = rp (lgo ob) L k)
theorem LI.cf {ob : Rec} {ns cap : Int32} {L : Nat} (h : LI ob ns cap L) : gI ob 0 = 8 ∧ gI ob 1 = ns ∧ gI ob 2 = cap := h.1
theorem LI.e4 {ob : Rec} {ns cap : Int32} {L : Nat} (h : LI ob ns cap L) : gI ob 4 = n32 L := h.2.1
theorem LI.lc {ob : Rec} {ns cap : Int32} {L : Nat} (h : LI ob ns cap L) : (L : Int) ≤ cap.toInt := h.2.2.1
theorem LI.lw {ob : Rec} {ns cap : Int32} {L : Nat} (h : LI ob ns cap L) : LW (lgo ob) L := h.2.2.2.1
theorem LI.kd {ob : Rec} {ns cap : Int32} {L : Nat} (h : LI ob ns cap L) : ∀ p, 1 ≤ p → p ≤ L → (1 ≤ (lgo ob 0 p).toInt ∧ (lgo ob 0 p).toInt ≤ 5) ∧ In ns.toInt (lgo ob 1 p) ∧ In 8 (lgo ob 2 p) := h.2.2.2.2.1
theorem LI.sl {ob : Rec} {ns cap : Int32} {L : Nat} (h : LI ob ns cap L) : ∀ s, In 8 s → ¬ gA ob 5 s = 0 → s.toInt < ns.toInt ∧ ∃ b, 1 ≤ b ∧ b ≤ L ∧ gA ob 6 s = n32 b ∧ lgo ob 0 b = 1 ∧ lgo ob 1 b = s ∧ ∀ p, b < p → p ≤ L → lgo ob 1 p = s → lgo ob 0 p = 2 ∨ lgo ob 0 p = 3 := h.2.2.2.2.2.1
theorem LI.pu {ob : Rec} {ns cap : Int32} {L : Nat} (h : LI ob ns cap L) : ∀ k, k < 8 → tv ob 7 8 k = rp (lgo ob) L k := h.2.2.2.2.2.2
abbrev SI (ob : Rec) (L E A C : Nat) (l : List Msg) (P : Pd) : Prop := (gI ob 5 = n32 E) ∧ (gI ob 6 = n32 A) ∧ (gI ob 7 = n32 C) ∧ (E ≤ L ∧ (E = 0 ∨ lgo ob 0 E = 4)) ∧ (A ≤ L ∧ (A = 0 ∨ lgo ob 0 A = 4)) ∧ (C ≤ A ∧ (C = 0 ∨ lgo ob 0 C = 4)) ∧ (∀ k, k < 8 → tv ob 9 10 k = rp (lgo ob) A k) ∧ (QL ob l) ∧ (l.length ≤ cN (cl (lgo ob) E) (E + 1)) ∧ (∀ k, k < 8 → pv ob k = P k) ∧ (QS (lgo ob) E A l P)
theorem SI.e5 {ob : Rec} {L E A C : Nat} {l : List Msg} {P : Pd} (h : SI ob L E A C l P) : gI ob 5 = n32 E := h.1
theorem SI.e6 {ob : Rec} {L E A C : Nat} {l : List Msg} {P : Pd} (h : SI ob L E A C l P) : gI ob 6 = n32 A := h.2.1
theorem SI.e7 {ob : Rec} {L E A C : Nat} {l : List Msg} {P : Pd} (h : SI ob L E A C l P) : gI ob 7 = n32 C := h.2.2.1
theorem SI.hE {ob : Rec} {L E A C : Nat} {l : List Msg} {P : Pd} (h : SI ob L E A C l P) : E ≤ L ∧ (E = 0 ∨ lgo ob 0 E = 4) := h.2.2.2.1
theorem SI.hA {ob : Rec} {L E A C : Nat} {l : List Msg} {P : Pd} (h : SI ob L E A C l P) : A ≤ L ∧ (A = 0 ∨ lgo ob 0 A = 4) := h.2.2.2.2.1
theorem SI.hC {ob : Rec} {L E A C : Nat} {l : List Msg} {P : Pd} (h : SI ob L E A C l P) : C ≤ A ∧ (C = 0 ∨ lgo ob 0 C = 4) := h.2.2.2.2.2.1
theorem SI.sb {ob : Rec} {L E A C : Nat} {l : List Msg} {P : Pd} (h : SI ob L E A C l P) : ∀ k, k < 8 → tv ob 9 10 k = rp (lgo ob) A k := h.2.2.2.2.2.2.1
theorem SI.ql {ob : Rec} {L E A C : Nat} {l : List Msg} {P : Pd} (h : SI ob L E A C l P) : QL ob l := h.2.2.2.2.2.2.2.1
theorem SI.qw {ob : Rec} {L E A C : Nat} {l : List Msg} {P : Pd} (h : SI ob L E A C l P) : l.length ≤ cN (cl (lgo ob) E) (E + 1) := h.2.2.2.2.2.2.2.2.1
theorem SI.pd {ob : Rec} {L E A C : Nat} {l : List Msg} {P : Pd} (h : SI ob L E A C l P) : ∀ k, k < 8 → pv ob k = P k := h.2.2.2.2.2.2.2.2.2.1
theorem SI.qs {ob : Rec} {L E A C : Nat} {l : List Msg} {P : Pd} (h : SI ob L E A C l P) : QS (lgo ob) E A l P := h.2.2.2.2.2.2.2.2.2.2
theorem n32_ne {i j : Nat} (hi : i < 1000) (hj : j < 1000) (h : ¬ i = j) : ¬ n32 i = n32 j := fun e => h (n32_inj hi hj e)
theorem n32_s {i : Nat} (hi : i < 1000) : n32 i + 1 = n32 (i + 1) := eq_i32.mpr (by rw [s1 (by rw [nt i (by omega)]; omega), nt i (by omega), nt (i + 1) (by omega)]; omega)
theorem n32_lt {i j : Nat} (hi : i < 1000) (hj : j < 1000) : n32 i < n32 j ↔ i < j := by rw [lt_i, nt i (by omega), nt j (by omega)]; omega
theorem n32_b {i : Nat} (hi : i < 1000) : 0 ≤ (n32 i).toInt ∧ (n32 i).toInt = i := by rw [nt i (by omega)]; omega
theorem ck32 {γ : Type} {n : Int32} {m i : Nat} {A : Option γ} (hm : n.toInt = m) (h : i < m) (hi : i < 1000) : chk n (n32 i) A = A := chk_ok (by rw [hm, nt i (by omega)]; omega)
theorem LI_c {ob r : Rec} {ns cap : Int32} {L : Nat} (h : LI ob ns cap L) (hI : ∀ k, k ≤ 2 ∨ k = 4 → gI r k = gI ob k) (hA : ∀ k x, k ≤ 8 → gA r k x = gA ob k x) : LI r ns cap L := by
  obtain ⟨a1, a2, a3, a4, a5, a6, a7⟩ := h
  have el : lgo r = lgo ob := lgo_c (fun k x hk => hA k x (by omega))
  have tve : ∀ k, tv r 7 8 k = tv ob 7 8 k := fun k => by unfold tv; rw [hA 7 _ (by omega), hA 8 _ (by omega)]
  refine ⟨?_, ?_, a3, by rw [el]; exact a4, by rw [el]; exact a5, fun s hs z => ?_, fun k hk => ?_⟩
  · rw [hI 0 (by omega), hI 1 (by omega), hI 2 (by omega)]; exact a1
  · rw [hI 4 (by omega)]; exact a2
  · rw [hA 5 s (by omega)] at z
    rw [hA 6 s (by omega), el]
    exact a6 s hs z
  · rw [tve, el]; exact a7 k hk
theorem SI_c {ob r : Rec} {L L' E A C : Nat} {l : List Msg} {P : Pd} (h : SI ob L E A C l P) (hL : L ≤ L') (ag : Ag (lgo ob) (lgo r) L) (hI : ∀ k, 5 ≤ k → k ≤ 9 → gI r k = gI ob k) (hA : ∀ k x, 9 ≤ k → gA r k x = gA ob k x) : SI r L' E A C l P := by
  obtain ⟨a1, a2, a3, a4, a5, a6, a7, ⟨q, q1, q2, q3, q4, q5⟩, a9, a10, a11⟩ := h
  refine ⟨?_, ?_, ?_, ⟨by omega, ?_⟩, ⟨by omega, ?_⟩, ⟨a6.1, ?_⟩, fun k hk => ?_, ⟨q, q1, ?_, ?_, q4, fun i hi => ?_⟩, ?_, fun k hk => ?_, QS_a ag a4.1 a5.1 a11⟩
  · rw [hI 5 (by omega) (by omega)]; exact a1
  · rw [hI 6 (by omega) (by omega)]; exact a2
  · rw [hI 7 (by omega) (by omega)]; exact a3
  · rw [ag 0 E a4.1]; exact a4.2
  · rw [ag 0 A a5.1]; exact a5.2
  · rw [ag 0 C (by omega)]; exact a6.2
  · rw [rp_a ag A a5.1]; unfold tv; rw [hA 9 _ (by omega), hA 10 _ (by omega)]; exact a7 k hk
  · rw [hI 8 (by omega) (by omega)]; exact q2
  · rw [hI 9 (by omega) (by omega)]; exact q3
  · rw [q5 i hi]; unfold qm; rw [hA 13 _ (by omega), hA 14 _ (by omega), hA 15 _ (by omega), hA 16 _ (by omega)]
  · rw [cN_eq (E + 1) (fun i _ => cl_a ag E a4.1 i)]; exact a9
  · unfold pv; rw [hA 11 _ (by omega), hA 12 _ (by omega)]; exact a10 k hk
def enr (ob : Rec) (n k s y v : Int32) : Rec := sA (sA (sA (sA (sA (sI ob 4 n) 0 n k) 1 n s) 2 n y) 3 n v) 4 n 0
theorem app_e {ob : Rec} {L : Nat} (h4 : gI ob 4 = n32 L) (hL : L < 128) (k s y v : Int32) : X_append ob k s y v = some (n32 (L + 1), enr ob (n32 (L + 1)) k s y v) := by
  have q : ∀ A : Option (Int32 × Rec), chk 129 (n32 (L + 1)) A = A := fun A => ck32 (m := 129) rfl (by omega) (by omega)
  unfold X_append; rw [h4, n32_s (by omega), q, q, q, q, q]; rfl
theorem enr_o {ob : Rec} {L : Nat} (hL : L < 128) (k s y v : Int32) : Ag (lgo ob) (lgo (enr ob (n32 (L + 1)) k s y v)) L := fun j p hp => by
  have ne : ¬ n32 p = n32 (L + 1) := n32_ne (by omega) (by omega) (by omega)
  unfold lgo
  by_cases c : j ≤ 4
  · rw [if_pos c, if_pos c]
    unfold enr
    simp only [gA_sA, gA_sI, ne, and_false, if_false]
  · rw [if_neg c, if_neg c]
theorem enr_n {ob : Rec} (n k s y v : Int32) : gA (enr ob n k s y v) 0 n = k ∧ gA (enr ob n k s y v) 1 n = s ∧ gA (enr ob n k s y v) 2 n = y ∧ gA (enr ob n k s y v) 3 n = v := by
  unfold enr; simp [gA_sA]
theorem enr_h {ob : Rec} (n k s y v : Int32) (j : Nat) (x : Int32) (hj : 5 ≤ j) : gA (enr ob n k s y v) j x = gA ob j x := by
  unfold enr; simp [gA_sA, gA_sI, show ¬ j = 0 by omega, show ¬ j = 1 by omega, show ¬ j = 2 by omega, show ¬ j = 3 by omega, show ¬ j = 4 by omega]
theorem enr_i {ob : Rec} (n k s y v : Int32) (j : Nat) : gI (enr ob n k s y v) j = if j = 4 then n else gI ob j := rfl
/-- one record more, no commit -/
theorem LI_ap {ob r : Rec} {ns cap k s y : Int32} {L : Nat} (h : LI ob ns cap L) (hc : (L : Int) < cap.toInt) (hI : ∀ j, ¬ j = 4 → j ≤ 2 → gI r j = gI ob j) (h4 : gI r 4 = n32 (L + 1)) (ag : Ag (lgo ob) (lgo r) L) (k0 : lgo r 0 (L + 1) = k) (k1 : lgo r 1 (L + 1) = s) (k2 : lgo r 2 (L + 1) = y)
    (hk : ¬ k = 4 ∧ 1 ≤ k.toInt ∧ k.toInt ≤ 5) (hs : In ns.toInt s) (hy : In 8 y) (h7 : ∀ x, gA r 7 x = gA ob 7 x ∧ gA r 8 x = gA ob 8 x)
    (hsl : ∀ t, In 8 t → ¬ gA r 5 t = 0 → (t = s ∧ k = 1 ∧ gA r 6 t = n32 (L + 1)) ∨ (¬ gA ob 5 t = 0 ∧ gA r 6 t = gA ob 6 t ∧ (¬ t = s ∨ k = 2 ∨ k = 3))) : LI r ns cap (L + 1) := by
  obtain ⟨a1, a2, a3, a4, a5, a6, a7⟩ := h
  refine ⟨?_, h4, by omega, ⟨fun p x z w => ?_, fun c x z w => ?_⟩, fun p x z => ?_, fun t ht z => ?_, fun q hq => ?_⟩
  · rw [hI 0 (by decide) (by decide), hI 1 (by decide) (by decide), hI 2 (by decide) (by decide)]; exact a1
  · by_cases d : p = L + 1
    · rw [d, k2]; exact hy
    · rw [ag 0 p (by omega)] at w; rw [ag 2 p (by omega)]; exact a4.ky p x (by omega) w
  · by_cases d : c = L + 1
    · rw [d, k0] at w; exact absurd w hk.1
    · rw [ag 0 c (by omega)] at w
      have := a4.cm c x (by omega) w
      rw [bg_a ag (by omega), ag 0 _ (by omega), ag 1 _ (by omega), ag 1 _ (by omega)]
      refine ⟨this.1, this.2.1, this.2.2.1, this.2.2.2.1, fun p u v w' => ?_⟩
      rw [ag 1 p (by omega)] at w'
      rw [ag 0 p (by omega)]
      exact this.2.2.2.2 p u v w'
  · by_cases d : p = L + 1
    · rw [d, k0, k1, k2]; exact ⟨hk.2, hs, hy⟩
    · rw [ag 0 p (by omega), ag 1 p (by omega), ag 2 p (by omega)]; exact a5 p x (by omega)
  · rcases hsl t ht z with ⟨u, v, w⟩ | ⟨u, v, w⟩
    · refine ⟨by rw [u]; exact hs.2, L + 1, by omega, by omega, w, by rw [k0]; exact v, by rw [k1, u], fun p x y' => by omega⟩
    · obtain ⟨u', b, b1, b2, b3, b4, b5, b6⟩ := a6 t ht u
      refine ⟨u', b, b1, by omega, by rw [v]; exact b3, by rw [ag 0 b b2]; exact b4, by rw [ag 1 b b2]; exact b5, fun p x y' w' => ?_⟩
      by_cases d : p = L + 1
      · rw [d, k1] at w'
        rw [d, k0]
        rcases w with w | w
        · exact absurd w'.symm w
        · exact w
      · rw [ag 1 p (by omega)] at w'
        rw [ag 0 p (by omega)]
        exact b6 p x (by omega) w'
  · show _ = (if lgo r 0 (L + 1) = 4 then _ else rp (lgo r) L) q
    rw [k0, if_neg hk.1, rp_a ag L (Nat.le_refl _)]
    unfold tv
    rw [(h7 _).1, (h7 _).2]; exact a7 q hq
theorem lf_e {ob : Rec} {ns cap : Int32} {L : Nat} (h : LI ob ns cap L) (hcap : cap.toInt ≤ 64) : X_logFull ob = some (if (L : Int) < cap.toInt then 0 else 1) := by
  have hl := h.lc
  unfold X_logFull; rw [h.e4, h.cf.2.2]
  have e := nt L (by omega)
  by_cases c : (L : Int) < cap.toInt
  · rw [if_pos (by rw [lt_i, e]; exact c), if_pos (by rw [lt_i, e]; show (L : Int) < 128; omega), if_pos c]
  · rw [if_neg (by rw [lt_i, e]; exact c), if_neg c]
theorem vsl {ob : Rec} {ns cap : Int32} {L : Nat} (h : LI ob ns cap L) (hns : ns.toInt ≤ 8) (s : Int32) : X_validSlot ob s = some (if In ns.toInt s then 1 else 0) := by
  unfold X_validSlot; rw [h.cf.2.1]
  by_cases c : In ns.toInt s
  · rw [if_neg (nneg c.1), if_pos (lt_i.mpr c.2), if_pos (by rw [lt_i]; show s.toInt < 8; have := c.2; omega), if_pos c]
  · rw [if_neg c]
    by_cases d : s < 0
    · rw [if_pos d]
    · rw [if_neg d, if_neg (fun e => c ⟨nneg' d, lt_i.mp e⟩)]
theorem vky {ob : Rec} {ns cap : Int32} {L : Nat} (h : LI ob ns cap L) (y : Int32) : X_validKey ob y = some (if In 8 y then 1 else 0) := by
  unfold X_validKey; rw [h.cf.1]
  by_cases c : In 8 y
  · rw [if_neg (nneg c.1), if_pos (ltn (m := 8) rfl c.2), if_pos (by rw [lt_i]; show y.toInt < 32; have := c.2; omega), if_pos c]
  · rw [if_neg c]
    by_cases d : y < 0
    · rw [if_pos d]
    · rw [if_neg d, if_neg (fun e => c ⟨nneg' d, lt_i.mp e⟩)]
theorem cos_e {ob : Rec} {ns cap : Int32} {L : Nat} (h : LI ob ns cap L) (hns : ns.toInt ≤ 8) (s : Int32) : X_checkOpenSlot ob s = some (if In ns.toInt s then (if gA ob 5 s = 0 then -2 else 0) else -1) := by
  unfold X_checkOpenSlot; rw [vsl h hns, Option.bind_some]
  by_cases c : In ns.toInt s
  · rw [if_pos c, if_neg (by decide), ckn (m := 8) rfl ⟨c.1, by have := c.2; omega⟩, if_pos c]
    split <;> rfl
  · rw [if_neg c, if_pos rfl, if_neg c]
/-- what a call that writes the log does: r is its answer -/
abbrev Wr (ob r : Rec) (a : Int32) (L L' : Nat) : Prop := (a.toInt < 0 ∧ r = ob ∧ L' = L) ∨ (a = n32 (L + 1) ∧ L' = L + 1)
theorem SI_w {ob r : Rec} {L E A C : Nat} {l : List Msg} {P : Pd} (h : SI ob L E A C l P) (ag : Ag (lgo ob) (lgo r) L) (hI : ∀ k, 5 ≤ k → k ≤ 9 → gI r k = gI ob k) (hA : ∀ k x, 9 ≤ k → gA r k x = gA ob k x) : SI r (L + 1) E A C l P := SI_c h (by omega) ag hI hA
/-- the facts of a successful append that the laws ask for -/
abbrev Ap (ob r : Rec) (L : Nat) (k s y v : Int32) : Prop := (Ag (lgo ob) (lgo r) L) ∧ (lgo r 0 (L + 1) = k ∧ lgo r 1 (L + 1) = s ∧ lgo r 2 (L + 1) = y ∧ lgo r 3 (L + 1) = v) ∧ (∀ j, ¬ j = 4 → gI r j = gI ob j) ∧ (∀ j x, 9 ≤ j → gA r j x = gA ob j x)
theorem Ap.ag {ob r : Rec} {L : Nat} {k s y v : Int32} (h : Ap ob r L k s y v) : Ag (lgo ob) (lgo r) L := h.1
theorem Ap.nw {ob r : Rec} {L : Nat} {k s y v : Int32} (h : Ap ob r L k s y v) : lgo r 0 (L + 1) = k ∧ lgo r 1 (L + 1) = s ∧ lgo r 2 (L + 1) = y ∧ lgo r 3 (L + 1) = v := h.2.1
theorem Ap.gi {ob r : Rec} {L : Nat} {k s y v : Int32} (h : Ap ob r L k s y v) : ∀ j, ¬ j = 4 → gI r j = gI ob j := h.2.2.1
theorem Ap.ga {ob r : Rec} {L : Nat} {k s y v : Int32} (h : Ap ob r L k s y v) : ∀ j x, 9 ≤ j → gA r j x = gA ob j x := h.2.2.2
theorem Ap_e {ob r : Rec} {L : Nat} (hL : L < 128) (k s y v : Int32) (h04 : ∀ j x, j ≤ 4 → gA r j x = gA (enr ob (n32 (L + 1)) k s y v) j x) (hi : ∀ j, gI r j = gI (enr ob (n32 (L + 1)) k s y v) j) (h9 : ∀ j x, 9 ≤ j → gA r j x = gA ob j x) : Ap ob r L k s y v := by
  have el : lgo r = lgo (enr ob (n32 (L + 1)) k s y v) := lgo_c h04
  have n := enr_n (ob := ob) (n32 (L + 1)) k s y v
  refine ⟨by rw [el]; exact enr_o hL k s y v, by rw [el]; exact n, fun j hj => ?_, h9⟩
  rw [hi, enr_i, if_neg hj]
theorem bgn_e {ob : Rec} {ns cap : Int32} {L : Nat} (h : LI ob ns cap L) (hns : ns.toInt ≤ 8) (hcap : cap.toInt ≤ 64) (s : Int32) :
    ∃ r, X_begin ob s = some (if In ns.toInt s then (if gA ob 5 s = 0 then (if (L : Int) < cap.toInt then n32 (L + 1) else -4) else -2) else -1, r) ∧
      ((¬ (In ns.toInt s ∧ gA ob 5 s = 0 ∧ (L : Int) < cap.toInt) ∧ r = ob) ∨ ((In ns.toInt s ∧ gA ob 5 s = 0 ∧ (L : Int) < cap.toInt) ∧ LI r ns cap (L + 1) ∧ Ap ob r L 1 s 0 0 ∧ (∀ t, gA r 5 t = if t = s then 1 else gA ob 5 t))) := by
  have hl := h.lc
  unfold X_begin; rw [vsl h hns, Option.bind_some]
  by_cases c : In ns.toInt s
  · have s8 : In 8 s := ⟨c.1, by have := c.2; omega⟩
    rw [if_pos c, if_neg (by decide), ckn (m := 8) rfl s8, if_pos c]
    by_cases d : gA ob 5 s = 0
    · rw [if_pos d, lf_e h hcap, Option.bind_some, if_pos d]
      by_cases e : (L : Int) < cap.toInt
      · rw [if_pos e, if_pos rfl, app_e h.e4 (by omega), bind2_some, ckn (m := 8) rfl s8, ckn (m := 8) rfl s8, if_pos e]
        generalize hr : sA (sA (enr ob (n32 (L + 1)) 1 s 0 0) 5 s 1) 6 s (n32 (L + 1)) = r
        have rA : ∀ j x, ¬ j = 5 → ¬ j = 6 → gA r j x = gA (enr ob (n32 (L + 1)) 1 s 0 0) j x := fun j x a b => by rw [← hr, gA_sA, if_neg (fun e => b e.1), gA_sA, if_neg (fun e => a e.1)]
        have rH : ∀ j x, 7 ≤ j → gA r j x = gA ob j x := fun j x hj => by rw [rA j x (by omega) (by omega), enr_h _ _ _ _ _ j x (by omega)]
        have r5 : ∀ t, gA r 5 t = if t = s then 1 else gA ob 5 t := fun t => by
          rw [← hr, gA_sA, if_neg (fun e => absurd e.1 (by decide)), gA_sA]
          by_cases z : t = s
          · rw [if_pos ⟨rfl, z⟩, if_pos z]
          · rw [if_neg (fun e => z e.2), if_neg z, enr_h _ _ _ _ _ 5 t (by omega)]
        have r6 : ∀ t, gA r 6 t = if t = s then n32 (L + 1) else gA ob 6 t := fun t => by
          rw [← hr, gA_sA]
          by_cases z : t = s
          · rw [if_pos ⟨rfl, z⟩, if_pos z]
          · rw [if_neg (fun e => z e.2), if_neg z, gA_sA, if_neg (fun e => absurd e.1 (by decide)), enr_h _ _ _ _ _ 6 t (by omega)]
        have ap := Ap_e (ob := ob) (r := r) (L := L) (by omega) 1 s 0 0 (fun j x hj => rA j x (by omega) (by omega)) (fun j => by rw [← hr]; rfl) (fun j x hj => rH j x (by omega))
        refine ⟨r, rfl, Or.inr ⟨⟨c, d, e⟩, ?_, ap, r5⟩⟩
        refine LI_ap h e (fun j a _ => ap.gi j a) (by rw [← hr]; rfl) ap.ag ap.nw.1 ap.nw.2.1 ap.nw.2.2.1 (by decide) c (by decide) (fun x => ⟨rH 7 x (by omega), rH 8 x (by omega)⟩) (fun t ht z => ?_)
        rw [r5] at z
        rw [r6]
        by_cases u : t = s
        · left; exact ⟨u, rfl, by rw [if_pos u]⟩
        · right; rw [if_neg u] at z; rw [if_neg u]; exact ⟨z, rfl, Or.inl u⟩
      · rw [if_neg e, if_neg (by decide), if_neg e]; exact ⟨ob, rfl, Or.inl ⟨fun x => e x.2.2, rfl⟩⟩
    · rw [if_neg d, if_neg d]; exact ⟨ob, rfl, Or.inl ⟨fun x => d x.2.1, rfl⟩⟩
  · rw [if_neg c, if_pos rfl, if_neg c]; exact ⟨ob, rfl, Or.inl ⟨fun x => c x.1, rfl⟩⟩
/-- put and del -/
theorem wrt_e {ob : Rec} {ns cap k : Int32} {L : Nat} (h : LI ob ns cap L) (hns : ns.toInt ≤ 8) (hcap : cap.toInt ≤ 64) (hk : k = 2 ∨ k = 3) (s y v : Int32) :
    ∃ r, X_write ob k s y v = some (if In ns.toInt s then (if gA ob 5 s = 0 then -2 else if In 8 y then (if (L : Int) < cap.toInt then n32 (L + 1) else -4) else -3) else -1, r) ∧
      ((¬ (In ns.toInt s ∧ ¬ gA ob 5 s = 0 ∧ In 8 y ∧ (L : Int) < cap.toInt) ∧ r = ob) ∨ ((In ns.toInt s ∧ ¬ gA ob 5 s = 0 ∧ In 8 y ∧ (L : Int) < cap.toInt) ∧ LI r ns cap (L + 1) ∧ Ap ob r L k s y v ∧ (∀ t, gA r 5 t = gA ob 5 t))) := by
  have hl := h.lc
  unfold X_write; rw [cos_e h hns, Option.bind_some]
  by_cases c : In ns.toInt s
  · simp only [if_pos c]
    by_cases d : gA ob 5 s = 0
    · simp only [if_pos d]
      rw [if_neg (by decide)]; exact ⟨ob, rfl, Or.inl ⟨fun x => x.2.1 d, rfl⟩⟩
    · simp only [if_neg d]
      rw [if_pos trivial, vky h, Option.bind_some]
      by_cases y8 : In 8 y
      · simp only [if_pos y8]
        rw [if_neg (by decide), lf_e h hcap, Option.bind_some]
        by_cases e : (L : Int) < cap.toInt
        · simp only [if_pos e]
          rw [if_pos trivial, app_e h.e4 (by omega), bind2_some]
          generalize hr : enr ob (n32 (L + 1)) k s y v = r
          have rH : ∀ j x, 5 ≤ j → gA r j x = gA ob j x := fun j x hj => by rw [← hr]; exact enr_h _ _ _ _ _ j x hj
          have ap := Ap_e (ob := ob) (r := r) (L := L) (by omega) k s y v (fun j x _ => by rw [hr]) (fun j => by rw [hr]) (fun j x hj => rH j x (by omega))
          refine ⟨r, rfl, Or.inr ⟨⟨c, d, y8, e⟩, ?_, ap, fun t => rH 5 t (by omega)⟩⟩
          refine LI_ap h e (fun j a _ => ap.gi j a) (by rw [← hr]; rfl) ap.ag ap.nw.1 ap.nw.2.1 ap.nw.2.2.1 (by rcases hk with e | e <;> rw [e] <;> decide) c y8 (fun x => ⟨rH 7 x (by omega), rH 8 x (by omega)⟩) (fun t ht z => ?_)
          rw [rH 5 t (by omega)] at z
          exact Or.inr ⟨z, rH 6 t (by omega), Or.inr hk⟩
        · simp only [if_neg e]
          rw [if_neg (by decide)]; exact ⟨ob, rfl, Or.inl ⟨fun x => e x.2.2.2, rfl⟩⟩
      · simp only [if_neg y8]
        rw [if_pos trivial]; exact ⟨ob, rfl, Or.inl ⟨fun x => y8 x.2.2.1, rfl⟩⟩
  · simp only [if_neg c]
    rw [if_neg (by decide)]; exact ⟨ob, rfl, Or.inl ⟨fun x => c x.1, rfl⟩⟩
theorem abo_e {ob : Rec} {ns cap : Int32} {L : Nat} (h : LI ob ns cap L) (hns : ns.toInt ≤ 8) (hcap : cap.toInt ≤ 64) (s : Int32) :
    ∃ r, X_abort ob s = some (if In ns.toInt s then (if gA ob 5 s = 0 then -2 else if (L : Int) < cap.toInt then n32 (L + 1) else -4) else -1, r) ∧
      ((¬ (In ns.toInt s ∧ ¬ gA ob 5 s = 0 ∧ (L : Int) < cap.toInt) ∧ r = ob) ∨ ((In ns.toInt s ∧ ¬ gA ob 5 s = 0 ∧ (L : Int) < cap.toInt) ∧ LI r ns cap (L + 1) ∧ Ap ob r L 5 s 0 0 ∧ (∀ t, gA r 5 t = if t = s then 0 else gA ob 5 t))) := by
  have hl := h.lc
  unfold X_abort; rw [cos_e h hns, Option.bind_some]
  by_cases c : In ns.toInt s
  · have s8 : In 8 s := ⟨c.1, by have := c.2; omega⟩
    simp only [if_pos c]
    by_cases d : gA ob 5 s = 0
    · simp only [if_pos d]
      rw [if_neg (by decide)]; exact ⟨ob, rfl, Or.inl ⟨fun x => x.2.1 d, rfl⟩⟩
    · simp only [if_neg d]
      rw [if_pos trivial, lf_e h hcap, Option.bind_some]
      by_cases e : (L : Int) < cap.toInt
      · simp only [if_pos e]
        rw [if_pos trivial, app_e h.e4 (by omega), bind2_some, ckn (m := 8) rfl s8]
        generalize hr : sA (enr ob (n32 (L + 1)) 5 s 0 0) 5 s 0 = r
        have rA : ∀ j x, ¬ j = 5 → gA r j x = gA (enr ob (n32 (L + 1)) 5 s 0 0) j x := fun j x a => by rw [← hr, gA_sA, if_neg (fun e => a e.1)]
        have rH : ∀ j x, 6 ≤ j → gA r j x = gA ob j x := fun j x hj => by rw [rA j x (by omega), enr_h _ _ _ _ _ j x (by omega)]
        have r5 : ∀ t, gA r 5 t = if t = s then 0 else gA ob 5 t := fun t => by
          rw [← hr, gA_sA]
          by_cases z : t = s
          · rw [if_pos ⟨rfl, z⟩, if_pos z]
          · rw [if_neg (fun e => z e.2), if_neg z, enr_h _ _ _ _ _ 5 t (by omega)]
        have ap := Ap_e (ob := ob) (r := r) (L := L) (by omega) 5 s 0 0 (fun j x hj => rA j x (by omega)) (fun j => by rw [← hr]; rfl) (fun j x hj => rH j x (by omega))
        refine ⟨r, rfl, Or.inr ⟨⟨c, d, e⟩, ?_, ap, r5⟩⟩
        refine LI_ap h e (fun j a _ => ap.gi j a) (by rw [← hr]; rfl) ap.ag ap.nw.1 ap.nw.2.1 ap.nw.2.2.1 (by decide) c (by decide) (fun x => ⟨rH 7 x (by omega), rH 8 x (by omega)⟩) (fun t ht z => ?_)
        rw [r5] at z
        by_cases u : t = s
        · rw [if_pos u] at z; exact absurd rfl z
        · rw [if_neg u] at z; exact Or.inr ⟨z, rH 6 t (by omega), Or.inl u⟩
      · simp only [if_neg e]
        rw [if_neg (by decide)]; exact ⟨ob, rfl, Or.inl ⟨fun x => e x.2.2, rfl⟩⟩
  · simp only [if_neg c]
    rw [if_neg (by decide)]; exact ⟨ob, rfl, Or.inl ⟨fun x => c x.1, rfl⟩⟩
theorem n32k {k : Nat} {y : Int32} (hk : k < 8) (hy : In 8 y) : n32 k = y ↔ k = y.toInt.toNat := by
  rw [eq_i32, nt k (by omega)]; omega
/-- the publisher's table takes a transaction -/
theorem atp (NF : Nat) (lg : Lg) (s : Int32) (b c : Nat) (hc : c < 129) (T : Tb) (hkd : ∀ p, b ≤ p → p < c → In 8 (lg 2 p)) : ∀ (m fuel : Nat) (ob : Rec) (n : Nat), m < fuel → b + n ≤ c → c - (b + n) ≤ m → lgo ob = lg → (∀ k, k < 8 → tv ob 7 8 k = apx lg s b n T k) →
    ∃ r, X_applyToPublisher_l18 NF fuel ob s (n32 c) (n32 (b + n)) = some r ∧ r.1 = ob.1 ∧ (∀ j x, ¬ j = 7 → ¬ j = 8 → gA r j x = gA ob j x) ∧ (∀ k, k < 8 → tv r 7 8 k = apx lg s b (c - b) T k) := by
  intro m
  induction m with
  | zero =>
    intro fuel ob n hf h1 h2 hl ht
    obtain ⟨f, rfl⟩ : ∃ f, fuel = f + 1 := ⟨fuel - 1, by omega⟩
    have e : b + n = c := by omega
    refine ⟨ob, ?_, rfl, fun _ _ _ _ => rfl, fun k hk => ?_⟩
    · show X_applyToPublisher_w18 NF _ ob s (n32 c) (n32 (b + n)) = _
      unfold X_applyToPublisher_w18; rw [if_neg (by rw [n32_lt (by omega) (by omega)]; omega)]
    · rw [show c - b = n by omega]; exact ht k hk
  | succ m ih =>
    intro fuel ob n hf h1 h2 hl ht
    obtain ⟨f, rfl⟩ : ∃ f, fuel = f + 1 := ⟨fuel - 1, by omega⟩
    by_cases d : b + n < c
    · have lgj : ∀ j, j ≤ 4 → gA ob j (n32 (b + n)) = lg j (b + n) := fun j hj => by rw [← hl]; unfold lgo; rw [if_pos hj]
      have k8 := hkd (b + n) (by omega) d
      have nx : ∀ ob', lgo ob' = lg → (∀ k, k < 8 → tv ob' 7 8 k = apx lg s b (n + 1) T k) → ∃ r, X_applyToPublisher_l18 NF f ob' s (n32 c) (n32 (b + n) + 1) = some r ∧ r.1 = ob'.1 ∧ (∀ j x, ¬ j = 7 → ¬ j = 8 → gA r j x = gA ob' j x) ∧ (∀ k, k < 8 → tv r 7 8 k = apx lg s b (c - b) T k) := fun ob' a b' => by
        rw [n32_s (by omega), show b + n + 1 = b + (n + 1) by omega]; exact ih f ob' (n + 1) (by omega) (by omega) (by omega) a b'
      have same : mt lg s (b + n) = false → ∀ k, k < 8 → tv ob 7 8 k = apx lg s b (n + 1) T k := fun e k hk => by
        show _ = st1 lg s (b + n) (apx lg s b n T) k
        unfold st1; rw [e]; exact ht k hk
      have q : ∀ A : Option Rec, chk 129 (n32 (b + n)) A = A := fun A => ck32 (m := 129) rfl (by omega) (by omega)
      have q' : ∀ A : Option Rec, chk 32 (lg 2 (b + n)) A = A := fun A => ckn (m := 32) rfl ⟨k8.1, by have := k8.2; omega⟩
      show ∃ r, X_applyToPublisher_w18 NF (X_applyToPublisher_l18 NF f) ob s (n32 c) (n32 (b + n)) = _ ∧ _
      unfold X_applyToPublisher_w18
      rw [if_pos (by rw [n32_lt (by omega) (by omega)]; exact d), if_pos (by rw [lt_i, nt _ (by omega)]; show ((b + n : Nat) : Int) < 129; omega), q, lgj 1 (by omega)]
      by_cases es : lg 1 (b + n) = s
      · rw [if_pos es, q, lgj 2 (by omega), if_neg (nneg k8.1), if_pos (by rw [lt_i]; show _ < (32 : Int); have := k8.2; omega), q, lgj 0 (by omega)]
        by_cases e2 : lg 0 (b + n) = 2
        · rw [if_pos e2, q', q, q', lgj 3 (by omega)]
          have mtt : mt lg s (b + n) = true := decide_eq_true ⟨es, Or.inl e2⟩
          obtain ⟨r, r1, r2, r3, r4⟩ := nx (sA (sA ob 7 (lg 2 (b + n)) 1) 8 (lg 2 (b + n)) (lg 3 (b + n))) ((lgo_c (fun k x hk => by rw [gA_sA, if_neg (by omega), gA_sA, if_neg (by omega)])).trans hl) (fun k hk => by
            show _ = st1 lg s (b + n) (apx lg s b n T) k
            unfold st1 eff tv
            rw [mtt, e2]
            simp only [if_true]
            have := n32k hk k8
            by_cases z : k = (lg 2 (b + n)).toInt.toNat
            · rw [if_pos z, this.mpr z]; simp [gA_sA]
            · have z' : ¬ n32 k = lg 2 (b + n) := fun e => z (this.mp e)
              rw [if_neg z, ← ht k hk]
              unfold tv
              simp [gA_sA, z'])
          exact ⟨r, r1, r2, fun j x a b' => by rw [r3 j x a b', gA_sA, if_neg (fun e => b' e.1), gA_sA, if_neg (fun e => a e.1)], r4⟩
        · rw [if_neg e2, q]
          by_cases e3 : lg 0 (b + n) = 3
          · rw [if_pos e3, q']
            have mtt : mt lg s (b + n) = true := decide_eq_true ⟨es, Or.inr e3⟩
            obtain ⟨r, r1, r2, r3, r4⟩ := nx (sA ob 7 (lg 2 (b + n)) 0) ((lgo_c (fun k x hk => by rw [gA_sA, if_neg (by omega)])).trans hl) (fun k hk => by
              show _ = st1 lg s (b + n) (apx lg s b n T) k
              unfold st1 eff tv
              rw [mtt, if_neg e2]
              simp only [if_true]
              have := n32k hk k8
              by_cases z : k = (lg 2 (b + n)).toInt.toNat
              · rw [if_pos z, this.mpr z]; simp [gA_sA]
              · have z' : ¬ n32 k = lg 2 (b + n) := fun e => z (this.mp e)
                rw [if_neg z, ← ht k hk]
                unfold tv
                simp [gA_sA, z'])
            exact ⟨r, r1, r2, fun j x a b' => by rw [r3 j x a b', gA_sA, if_neg (fun e => a e.1)], r4⟩
          · rw [if_neg e3]
            exact nx ob hl (same (decide_eq_false (fun x => x.2.elim e2 e3)))
      · rw [if_neg es]
        exact nx ob hl (same (decide_eq_false (fun x => es x.1)))
    · have e : b + n = c := by omega
      refine ⟨ob, ?_, rfl, fun _ _ _ _ => rfl, fun k hk => ?_⟩
      · show X_applyToPublisher_w18 NF _ ob s (n32 c) (n32 (b + n)) = _
        unfold X_applyToPublisher_w18; rw [if_neg (by rw [n32_lt (by omega) (by omega)]; omega)]
      · rw [show c - b = n by omega]; exact ht k hk
theorem com_e (NF : Nat) (hNF : 200 < NF) {ob : Rec} {ns cap : Int32} {L : Nat} (h : LI ob ns cap L) (hns : ns.toInt ≤ 8) (hcap : cap.toInt ≤ 64) (s : Int32) :
    ∃ r, X_commit NF ob s = some (if In ns.toInt s then (if gA ob 5 s = 0 then -2 else if (L : Int) < cap.toInt then n32 (L + 1) else -4) else -1, r) ∧
      ((¬ (In ns.toInt s ∧ ¬ gA ob 5 s = 0 ∧ (L : Int) < cap.toInt) ∧ r = ob) ∨ ((In ns.toInt s ∧ ¬ gA ob 5 s = 0 ∧ (L : Int) < cap.toInt) ∧ LI r ns cap (L + 1) ∧ Ap ob r L 4 s 0 0 ∧ (∀ t, gA r 5 t = if t = s then 0 else gA ob 5 t))) := by
  have hl := h.lc
  unfold X_commit; rw [cos_e h hns, Option.bind_some]
  by_cases c : In ns.toInt s
  · have s8 : In 8 s := ⟨c.1, by have := c.2; omega⟩
    simp only [if_pos c]
    by_cases d : gA ob 5 s = 0
    · simp only [if_pos d]
      rw [if_neg (by decide)]; exact ⟨ob, rfl, Or.inl ⟨fun x => x.2.1 d, rfl⟩⟩
    · simp only [if_neg d]
      rw [if_pos trivial, lf_e h hcap, Option.bind_some]
      by_cases e : (L : Int) < cap.toInt
      · simp only [if_pos e]
        rw [if_pos trivial, ckn (m := 8) rfl s8, app_e h.e4 (by omega), bind2_some, ck32 (m := 129) rfl (by omega) (by omega)]
        obtain ⟨-, b, b1, b2, b3, b4, b5, b6⟩ := h.sl s s8 d
        generalize hq : sA (enr ob (n32 (L + 1)) 4 s 0 0) 4 (n32 (L + 1)) (gA ob 6 s) = q
        have qA : ∀ j x, ¬ j = 4 → gA q j x = gA (enr ob (n32 (L + 1)) 4 s 0 0) j x := fun j x a => by rw [← hq, gA_sA, if_neg (fun e => a e.1)]
        have qH : ∀ j x, 5 ≤ j → gA q j x = gA ob j x := fun j x hj => by rw [qA j x (by omega), enr_h _ _ _ _ _ j x hj]
        have agq : Ag (lgo ob) (lgo q) L := fun j p hp => by
          rw [← enr_o (ob := ob) (show L < 128 by omega) 4 s 0 0 j p hp]
          unfold lgo
          by_cases j4 : j ≤ 4
          · rw [if_pos j4, if_pos j4, ← hq, gA_sA, if_neg (fun e => n32_ne (by omega) (by omega) (by omega) e.2)]
          · rw [if_neg j4, if_neg j4]
        have en := enr_n (ob := ob) (n32 (L + 1)) 4 s 0 0
        have q0 : lgo q 0 (L + 1) = 4 := (qA 0 _ (by decide)).trans en.1
        have q1 : lgo q 1 (L + 1) = s := (qA 1 _ (by decide)).trans en.2.1
        have q2 : lgo q 2 (L + 1) = 0 := (qA 2 _ (by decide)).trans en.2.2.1
        have q3 : lgo q 3 (L + 1) = 0 := (qA 3 _ (by decide)).trans en.2.2.2
        have q4 : lgo q 4 (L + 1) = n32 b := by
          show gA q 4 (n32 (L + 1)) = _
          rw [← hq, gA_sA, if_pos ⟨rfl, rfl⟩, b3]
        have bgq : bg (lgo q) (L + 1) = b := by unfold bg; rw [q4, nt b (by omega)]; omega
        obtain ⟨r, r1, r2, r3, r4⟩ := atp NF (lgo q) s (b + 1) (L + 1) (by omega) (rp (lgo ob) L) (fun p x y => by rw [agq 2 p (by omega)]; exact (h.kd p (by omega) (by omega)).2.2) 128 NF q 0 (by omega) (by omega) (by omega) rfl (fun k hk => by
          show _ = rp (lgo ob) L k
          unfold tv; rw [qH 7 _ (by omega), qH 8 _ (by omega)]; exact h.pu k hk)
        have ea : X_applyToPublisher NF q s (gA ob 6 s) (n32 (L + 1)) = some r := by
          unfold X_applyToPublisher
          rw [b3, n32_s (by omega), if_neg (by rw [lt_i, nt _ (by omega)]; show ¬ ((b + 1 : Nat) : Int) < 1; omega)]
          exact r1
        rw [ea, Option.bind_some, ckn (m := 8) rfl s8]
        generalize hz : sA r 5 s 0 = z
        have zA : ∀ j x, ¬ j = 5 → gA z j x = gA r j x := fun j x a => by rw [← hz, gA_sA, if_neg (fun e => a e.1)]
        have elz : lgo z = lgo q := lgo_c (fun j x hj => by rw [zA j x (by omega), r3 j x (by omega) (by omega)])
        have z5 : ∀ t, gA z 5 t = if t = s then 0 else gA ob 5 t := fun t => by
          rw [← hz, gA_sA]
          by_cases u : t = s
          · rw [if_pos ⟨rfl, u⟩, if_pos u]
          · rw [if_neg (fun e => u e.2), if_neg u, r3 5 t (by decide) (by decide), qH 5 t (by omega)]
        have z6 : ∀ t, gA z 6 t = gA ob 6 t := fun t => by rw [zA 6 t (by decide), r3 6 t (by decide) (by decide), qH 6 t (by omega)]
        have zi : ∀ j, gI z j = if j = 4 then n32 (L + 1) else gI ob j := fun j => by
          rw [← hz]
          show gI r j = _
          unfold gI
          rw [r2, ← hq]; rfl
        have ag : Ag (lgo ob) (lgo z) L := by rw [elz]; exact agq
        refine ⟨z, rfl, Or.inr ⟨⟨c, d, e⟩, ?_, ⟨ag, by rw [elz]; exact ⟨q0, q1, q2, q3⟩, fun j hj => by rw [zi, if_neg hj], fun j x hj => by rw [zA j x (by omega), r3 j x (by omega) (by omega), qH j x (by omega)]⟩, z5⟩⟩
        refine ⟨by rw [zi, zi, zi]; exact h.cf, by rw [zi]; rfl, by omega, ⟨fun p x y w => ?_, fun p x y w => ?_⟩, fun p x y => ?_, fun t ht w => ?_, fun k hk => ?_⟩
        · by_cases u : p = L + 1
          · rw [u, elz, q0] at w
            rcases w with w | w <;> exact absurd w (by decide)
          · rw [ag 0 p (by omega)] at w; rw [ag 2 p (by omega)]; exact h.lw.ky p x (by omega) w
        · rw [elz] at w ⊢
          by_cases u : p = L + 1
          · rw [u, bgq, q1, agq 0 b b2, agq 1 b b2]
            refine ⟨b1, by omega, b4, b5, fun j x y w => ?_⟩
            rw [agq 1 j (by omega)] at w
            rw [agq 0 j (by omega)]
            exact b6 j x (by omega) w
          · rw [agq 0 p (by omega)] at w
            have := h.lw.cm p x (by omega) w
            rw [bg_a agq (by omega), agq 0 _ (by omega), agq 1 _ (by omega), agq 1 _ (by omega)]
            refine ⟨this.1, this.2.1, this.2.2.1, this.2.2.2.1, fun j x y w => ?_⟩
            rw [agq 1 j (by omega)] at w
            rw [agq 0 j (by omega)]
            exact this.2.2.2.2 j x y w
        · rw [elz]
          by_cases u : p = L + 1
          · rw [u, q0, q1, q2]; exact ⟨by decide, c, by decide⟩
          · rw [agq 0 p (by omega), agq 1 p (by omega), agq 2 p (by omega)]; exact h.kd p x (by omega)
        · rw [z5] at w
          by_cases u : t = s
          · rw [if_pos u] at w; exact absurd rfl w
          · rw [if_neg u] at w
            obtain ⟨u', b', b1', b2', b3', b4', b5', b6'⟩ := h.sl t ht w
            refine ⟨u', b', b1', by omega, by rw [z6]; exact b3', by rw [ag 0 b' b2']; exact b4', by rw [ag 1 b' b2']; exact b5', fun p x y w' => ?_⟩
            by_cases v : p = L + 1
            · rw [v, elz, q1] at w'; exact absurd w'.symm u
            · rw [ag 1 p (by omega)] at w'
              rw [ag 0 p (by omega)]
              exact b6' p x (by omega) w'
        · have tz : tv z 7 8 k = tv r 7 8 k := by unfold tv; rw [zA 7 _ (by decide), zA 8 _ (by decide)]
          rw [tz, r4 k hk, elz]
          show _ = (if lgo q 0 (L + 1) = 4 then apx (lgo q) (lgo q 1 (L + 1)) (bg (lgo q) (L + 1) + 1) (L + 1 - (bg (lgo q) (L + 1) + 1)) (rp (lgo q) L) else rp (lgo q) L) k
          rw [if_pos q0, q1, bgq, rp_a agq L (Nat.le_refl _)]
      · simp only [if_neg e]
        rw [if_neg (by decide)]; exact ⟨ob, rfl, Or.inl ⟨fun x => e x.2.2, rfl⟩⟩
  · simp only [if_neg c]
    rw [if_neg (by decide)]; exact ⟨ob, rfl, Or.inl ⟨fun x => c x.1, rfl⟩⟩
theorem n32_add {i j : Nat} (hi : i < 1000) (hj : j < 1000) : n32 i + n32 j = n32 (i + j) := eq_i32.mpr (by rw [ad (by rw [nt i (by omega), nt j (by omega)]; omega), nt i (by omega), nt j (by omega), nt (i + j) (by omega)]; omega)
theorem n32_p {i : Nat} (hi : i < 1000) : n32 (i + 1) - 1 = n32 i := eq_i32.mpr (by rw [sb (by rw [nt (i + 1) (by omega)]; show -2147483648 ≤ ((i + 1 : Nat) : Int) - 1 ∧ ((i + 1 : Nat) : Int) - 1 < 2147483648; omega), nt (i + 1) (by omega), nt i (by omega)]; show ((i + 1 : Nat) : Int) - 1 = _; omega)
theorem n32_m {i : Nat} (hi : i < 1000) : n32 i % 128 = n32 (i % 128) := eq_i32.mpr (by rw [md (by rw [nt i (by omega)]; omega) (by decide), nt i (by omega), nt (i % 128) (by omega)]; show (i : Int) % 128 = _; omega)
theorem n32_0 : n32 0 = 0 := rfl
theorem lgj {ob : Rec} {j p : Nat} (h : j ≤ 4) : lgo ob j p = gA ob j (n32 p) := by unfold lgo; rw [if_pos h]
/-- the next commit -/
theorem nc_l (NF : Nat) {ob : Rec} {L : Nat} (h4 : gI ob 4 = n32 L) (hL : L ≤ 64) : ∀ m fuel p, m < fuel → 1 ≤ p → p ≤ L + 1 → L + 1 - p ≤ m →
    (X_nextCommit_l13 NF ob fuel (n32 p) = some 0 ∧ ∀ j, p ≤ j → j ≤ L → ¬ lgo ob 0 j = 4) ∨ (∃ c, p ≤ c ∧ c ≤ L ∧ lgo ob 0 c = 4 ∧ (∀ j, p ≤ j → j < c → ¬ lgo ob 0 j = 4) ∧ X_nextCommit_l13 NF ob fuel (n32 p) = some (n32 c)) := by
  intro m
  induction m with
  | zero =>
    intro fuel p hf h1 h2 h3
    obtain ⟨f, rfl⟩ : ∃ f, fuel = f + 1 := ⟨fuel - 1, by omega⟩
    left
    refine ⟨?_, fun j a b => by omega⟩
    show X_nextCommit_w13 NF ob _ (n32 p) = _
    unfold X_nextCommit_w13; rw [h4, if_pos (by rw [n32_lt (by omega) (by omega)]; omega)]
  | succ m ih =>
    intro fuel p hf h1 h2 h3
    obtain ⟨f, rfl⟩ : ∃ f, fuel = f + 1 := ⟨fuel - 1, by omega⟩
    show (X_nextCommit_w13 NF ob (X_nextCommit_l13 NF ob f) (n32 p) = _ ∧ _) ∨ (∃ c, _ ∧ _ ∧ _ ∧ _ ∧ X_nextCommit_w13 NF ob (X_nextCommit_l13 NF ob f) (n32 p) = _)
    unfold X_nextCommit_w13; rw [h4]
    by_cases d : L < p
    · left
      rw [if_pos (by rw [n32_lt (by omega) (by omega)]; omega)]
      exact ⟨rfl, fun j a b => by omega⟩
    · rw [if_neg (by rw [n32_lt (by omega) (by omega)]; omega), if_pos (by rw [lt_i, nt p (by omega)]; show (p : Int) < 129; omega), ck32 (m := 129) rfl (by omega) (by omega)]
      by_cases e : gA ob 0 (n32 p) = 4
      · right
        rw [if_pos e]
        exact ⟨p, Nat.le_refl _, by omega, by rw [lgj (by omega)]; exact e, fun j a b => by omega, rfl⟩
      · rw [if_neg e, n32_s (by omega)]
        have ne : ¬ lgo ob 0 p = 4 := by rw [lgj (by omega)]; exact e
        rcases ih f (p + 1) (by omega) (by omega) (by omega) (by omega) with ⟨a, b⟩ | ⟨c, c1, c2, c3, c4, c5⟩
        · left
          refine ⟨a, fun j x y => ?_⟩
          by_cases z : j = p
          · rw [z]; exact ne
          · exact b j (by omega) y
        · right
          refine ⟨c, by omega, c2, c3, fun j x y => ?_, c5⟩
          by_cases z : j = p
          · rw [z]; exact ne
          · exact c4 j (by omega) y
theorem nc_e (NF : Nat) (hNF : 200 < NF) {ob : Rec} {L E : Nat} (h4 : gI ob 4 = n32 L) (hL : L ≤ 64) (hE : E ≤ L) :
    (X_nextCommit NF ob (n32 E) = some 0 ∧ ∀ j, E < j → j ≤ L → ¬ lgo ob 0 j = 4) ∨ (∃ c, E < c ∧ c ≤ L ∧ lgo ob 0 c = 4 ∧ (∀ j, E < j → j < c → ¬ lgo ob 0 j = 4) ∧ X_nextCommit NF ob (n32 E) = some (n32 c)) := by
  unfold X_nextCommit
  rw [n32_s (by omega), if_neg (by rw [lt_i, nt _ (by omega)]; show ¬ ((E + 1 : Nat) : Int) < 1; omega)]
  exact nc_l NF h4 hL 100 NF (E + 1) (by omega) (by omega) (by omega) (by omega)
/-- one message more -/
theorem enq_e {ob : Rec} {l : List Msg} (h : QL ob l) (hl : l.length < 128) (k y v c : Int32) : ∃ r, X_enqueue ob k y v c = some r ∧ QL r (l ++ [(k, y, v, c)]) ∧ (∀ j, ¬ j = 9 → gI r j = gI ob j) ∧ (∀ j x, j ≤ 12 → gA r j x = gA ob j x) := by
  obtain ⟨q, q1, q2, q3, q4, q5⟩ := h
  unfold X_enqueue
  have e : (gI ob 8 + gI ob 9) % 128 = qi q l.length := by rw [q2, q3, n32_add (by omega) (by omega), n32_m (by omega)]; rfl
  have m8 : (q + l.length) % 128 < 128 := Nat.mod_lt _ (by omega)
  rw [e, q3, if_pos (by rw [lt_i, nt _ (by omega)]; show (l.length : Int) < 128; omega), if_neg (show ¬ qi q l.length < 0 from nneg (n32_b (by omega)).1)]
  unfold X_enqueue_b34
  have ck : ∀ A : Option Rec, chk 128 (qi q l.length) A = A := fun A => ck32 (m := 128) rfl m8 (by omega)
  rw [ck, ck, ck, ck, q3]
  generalize hr : sI (sA (sA (sA (sA ob 13 (qi q l.length) k) 14 (qi q l.length) y) 15 (qi q l.length) v) 16 (qi q l.length) c) 9 (n32 l.length + 1) = r
  refine ⟨r, rfl, ⟨q, q1, ?_, ?_, ?_, fun i hi => ?_⟩, fun j hj => ?_, fun j x hj => ?_⟩
  · rw [← hr]; exact q2
  · rw [← hr, List.length_append, gI_sI, if_pos rfl, n32_s (by omega)]; rfl
  · rw [List.length_append]; show l.length + 1 ≤ 128; omega
  · rw [List.length_append] at hi
    have hi' : i < l.length + 1 := hi
    by_cases d : i = l.length
    · rw [d, List.getElem?_append_right (Nat.le_refl _), Nat.sub_self]
      unfold qm
      rw [← hr]
      simp [gA_sA, gA_sI]
    · rw [List.getElem?_append_left (by omega), q5 i (by omega)]
      have ne : ¬ qi q i = qi q l.length := by
        unfold qi
        exact n32_ne (by omega) (by omega) (by omega)
      unfold qm
      rw [← hr]
      simp [gA_sA, gA_sI, ne]
  · rw [← hr, gI_sI, if_neg hj]; rfl
  · rw [← hr]
    simp [gA_sA, gA_sI, show ¬ j = 13 by omega, show ¬ j = 14 by omega, show ¬ j = 15 by omega, show ¬ j = 16 by omega]
theorem msx_mono (lg : Lg) (s : Int32) (c p n : Nat) : ∀ m, (msx lg s c p n).length ≤ (msx lg s c p (n + m)).length
  | 0 => Nat.le_refl _
  | m + 1 => by
    have := msx_mono lg s c p n m
    show _ ≤ (msx lg s c p (n + m) ++ _).length
    rw [List.length_append]; omega
theorem emt_l (NF : Nat) (lg : Lg) (s : Int32) (b c : Nat) (hc : c < 129) (l : List Msg) (hl : l.length + (msx lg s c b (c - b)).length + 1 ≤ 128) : ∀ (m fuel : Nat) (ob : Rec) (n : Nat), m < fuel → b + n ≤ c → c - (b + n) ≤ m → lgo ob = lg → QL ob (l ++ msx lg s c b n) →
    ∃ r, X_emitTransaction_l26 NF fuel ob (n32 c) s (n32 (b + n)) = some r ∧ QL r (l ++ (msx lg s c b (c - b) ++ [cmsg c])) ∧ (∀ j, ¬ j = 9 → gI r j = gI ob j) ∧ (∀ j x, j ≤ 12 → gA r j x = gA ob j x) := by
  have fin : ∀ (ob : Rec), QL ob (l ++ msx lg s c b (c - b)) → ∃ r, X_emitTransaction_b102 NF ob (n32 c) = some r ∧ QL r (l ++ (msx lg s c b (c - b) ++ [cmsg c])) ∧ (∀ j, ¬ j = 9 → gI r j = gI ob j) ∧ (∀ j x, j ≤ 12 → gA r j x = gA ob j x) := by
    intro ob hq
    obtain ⟨r, r1, r2, r3, r4⟩ := enq_e hq (by rw [List.length_append]; omega) 4 0 0 (n32 c)
    refine ⟨r, ?_, by rw [← List.append_assoc]; exact r2, r3, r4⟩
    unfold X_emitTransaction_b102; rw [r1, Option.bind_some]
  intro m
  induction m with
  | zero =>
    intro fuel ob n hf h1 h2 hg hq
    obtain ⟨f, rfl⟩ : ∃ f, fuel = f + 1 := ⟨fuel - 1, by omega⟩
    rw [show n = c - b by omega] at hq
    show ∃ r, X_emitTransaction_w26 NF _ ob (n32 c) s (n32 (b + n)) = _ ∧ _
    unfold X_emitTransaction_w26; rw [if_neg (by rw [n32_lt (by omega) (by omega)]; omega)]
    exact fin ob hq
  | succ m ih =>
    intro fuel ob n hf h1 h2 hg hq
    obtain ⟨f, rfl⟩ : ∃ f, fuel = f + 1 := ⟨fuel - 1, by omega⟩
    show ∃ r, X_emitTransaction_w26 NF (X_emitTransaction_l26 NF f) ob (n32 c) s (n32 (b + n)) = _ ∧ _
    unfold X_emitTransaction_w26
    by_cases d : b + n < c
    · have g : ∀ j, j ≤ 4 → gA ob j (n32 (b + n)) = lg j (b + n) := fun j hj => by rw [← hg, lgj hj]
      have q : ∀ A : Option Rec, chk 129 (n32 (b + n)) A = A := fun A => ck32 (m := 129) rfl (by omega) (by omega)
      have nx : ∀ ob', lgo ob' = lg → QL ob' (l ++ msx lg s c b (n + 1)) → ∃ r, X_emitTransaction_l26 NF f ob' (n32 c) s (n32 (b + n) + 1) = some r ∧ QL r (l ++ (msx lg s c b (c - b) ++ [cmsg c])) ∧ (∀ j, ¬ j = 9 → gI r j = gI ob' j) ∧ (∀ j x, j ≤ 12 → gA r j x = gA ob' j x) := fun ob' a b' => by
        rw [n32_s (by omega), show b + n + 1 = b + (n + 1) by omega]; exact ih f ob' (n + 1) (by omega) (by omega) (by omega) a b'
      have same : mt lg s (b + n) = false → QL ob (l ++ msx lg s c b (n + 1)) := fun e => by
        show QL ob (l ++ (msx lg s c b n ++ (if mt lg s (b + n) then _ else [])))
        rw [e, if_neg (by decide), List.append_nil]; exact hq
      rw [if_pos (by rw [n32_lt (by omega) (by omega)]; exact d), if_pos (by rw [lt_i, nt _ (by omega)]; show ((b + n : Nat) : Int) < 129; omega), q, g 1 (by omega)]
      by_cases es : lg 1 (b + n) = s
      · have put : (lg 0 (b + n) = 2 ∨ lg 0 (b + n) = 3) → ∃ r, X_emitTransaction_b75 NF (X_emitTransaction_l26 NF f) ob (n32 c) s (n32 (b + n)) (lg 0 (b + n)) = some r ∧ QL r (l ++ (msx lg s c b (c - b) ++ [cmsg c])) ∧ (∀ j, ¬ j = 9 → gI r j = gI ob j) ∧ (∀ j x, j ≤ 12 → gA r j x = gA ob j x) := fun hk => by
          have mtt : mt lg s (b + n) = true := decide_eq_true ⟨es, hk⟩
          have mono := msx_mono lg s c b n (c - b - n)
          rw [show n + (c - b - n) = c - b by omega] at mono
          obtain ⟨r, r1, r2, r3, r4⟩ := enq_e hq (by rw [List.length_append]; omega) (lg 0 (b + n)) (lg 2 (b + n)) (lg 3 (b + n)) (n32 c)
          unfold X_emitTransaction_b75
          rw [q, q, g 2 (by omega), g 3 (by omega), r1, Option.bind_some]
          obtain ⟨w, w1, w2, w3, w4⟩ := nx r ((lgo_c (fun k x hk => r4 k x (by omega))).trans hg) (by
            show QL r (l ++ (msx lg s c b n ++ (if mt lg s (b + n) then [msg lg c (b + n)] else [])))
            rw [mtt, if_pos rfl, ← List.append_assoc]; exact r2)
          exact ⟨w, w1, w2, fun j hj => (w3 j hj).trans (r3 j hj), fun j x hj => (w4 j x hj).trans (r4 j x hj)⟩
        rw [if_pos es, q, g 0 (by omega)]
        by_cases e2 : lg 0 (b + n) = 2
        · rw [if_pos e2]; exact put (Or.inl e2)
        · rw [if_neg e2]
          by_cases e3 : lg 0 (b + n) = 3
          · rw [if_pos e3]; exact put (Or.inr e3)
          · rw [if_neg e3]
            exact nx ob hg (same (decide_eq_false (fun x => x.2.elim e2 e3)))
      · rw [if_neg es]
        exact nx ob hg (same (decide_eq_false (fun x => es x.1)))
    · rw [show n = c - b by omega] at hq
      rw [if_neg (by rw [n32_lt (by omega) (by omega)]; omega)]
      exact fin ob hq
theorem emt_e (NF : Nat) (hNF : 200 < NF) {ob : Rec} {c : Nat} {l : List Msg} (hc : c < 129) (hw : 1 ≤ bg (lgo ob) c ∧ bg (lgo ob) c < c) (hq : QL ob l) (hl : l.length + (tx (lgo ob) c).length ≤ 128) : ∃ r, X_emitTransaction NF ob (n32 c) = some r ∧ QL r (l ++ tx (lgo ob) c) ∧ (∀ j, ¬ j = 9 → gI r j = gI ob j) ∧ (∀ j x, j ≤ 12 → gA r j x = gA ob j x) := by
  have q : ∀ A : Option Rec, chk 129 (n32 c) A = A := fun A => ck32 (m := 129) rfl (by omega) (by omega)
  unfold X_emitTransaction
  rw [q, q]
  have e4 : gA ob 4 (n32 c) = n32 (bg (lgo ob) c) := by
    unfold bg; rw [lgj (by omega)]
    refine (n32_t _ ?_).symm
    have h := hw.1; unfold bg at h; rw [lgj (by omega)] at h; omega
  rw [e4, n32_s (by omega), if_neg (by rw [lt_i, nt _ (by omega)]; show ¬ ((bg (lgo ob) c + 1 : Nat) : Int) < 1; omega), ← lgj (show 1 ≤ 4 by omega)]
  unfold tx at hl ⊢
  rw [List.length_append] at hl
  exact emt_l NF (lgo ob) (lgo ob 1 c) (bg (lgo ob) c + 1) c hc l hl 150 NF ob 0 (by omega) (by omega) (by omega) rfl (by show QL ob (l ++ []); rw [List.append_nil]; exact hq)
/-- what a stream call emits: the last commit sent, and their number -/
def sc (lg : Lg) (N : Int) (E : Nat) : Nat → Nat × Nat
  | 0 => (E, 0)
  | m + 1 => if ((sc lg N E m).2 : Int) < N ∧ lg 0 (E + m + 1) = 4 then (E + m + 1, (sc lg N E m).2 + 1) else sc lg N E m
theorem sc_same (lg : Lg) (N : Int) (E : Nat) (m : Nat) : ∀ n, (((sc lg N E m).2 : Int) < N → ∀ j, E + m < j → j ≤ E + m + n → ¬ lg 0 j = 4) → sc lg N E (m + n) = sc lg N E m
  | 0, _ => rfl
  | n + 1, h => by
    show (if ((sc lg N E (m + n)).2 : Int) < N ∧ lg 0 (E + (m + n) + 1) = 4 then _ else sc lg N E (m + n)) = _
    rw [sc_same lg N E m n (fun a j x y => h a j x (by omega))]
    rw [if_neg (fun x => h x.1 (E + (m + n) + 1) (by omega) (by omega) x.2)]
theorem sc_b (lg : Lg) (N : Int) (E : Nat) : ∀ m, (sc lg N E m).2 ≤ m ∧ E ≤ (sc lg N E m).1 ∧ (sc lg N E m).1 ≤ E + m ∧ ((sc lg N E m).1 = E ∨ lg 0 (sc lg N E m).1 = 4) ∧ (((sc lg N E m).2 : Int) < N → ∀ j, (sc lg N E m).1 < j → j ≤ E + m → ¬ lg 0 j = 4)
  | 0 => ⟨Nat.le_refl _, Nat.le_refl _, Nat.le_refl _, Or.inl rfl, fun _ j x y => by have : E < j := x; omega⟩
  | m + 1 => by
    obtain ⟨a, b, c, d, e⟩ := sc_b lg N E m
    by_cases z : ((sc lg N E m).2 : Int) < N ∧ lg 0 (E + m + 1) = 4
    · have q : sc lg N E (m + 1) = (E + m + 1, (sc lg N E m).2 + 1) := if_pos z
      rw [q]
      exact ⟨by show (sc lg N E m).2 + 1 ≤ m + 1; omega, by show E ≤ E + m + 1; omega, by show E + m + 1 ≤ E + (m + 1); omega, Or.inr z.2, fun _ j x y => by have : E + m + 1 < j := x; omega⟩
    · have q : sc lg N E (m + 1) = sc lg N E m := if_neg z
      rw [q]
      refine ⟨by omega, b, by omega, d, fun x j u v => ?_⟩
      by_cases w : j = E + m + 1
      · rw [w]; exact fun y => z ⟨x, y⟩
      · exact e x j u (by omega)
theorem tx_pos (lg : Lg) (c : Nat) : 1 ≤ (tx lg c).length := by
  unfold tx; rw [List.length_append]; show 1 ≤ _ + 1; omega
theorem lgq {ob r : Rec} (h : ∀ j x, j ≤ 12 → gA r j x = gA ob j x) : lgo r = lgo ob := lgo_c (fun k x hk => h k x (by omega))
/-- one transaction sent -/
theorem SI_em {ob r : Rec} {ns cap : Int32} {L E A C c : Nat} {l : List Msg} {P : Pd} (hI : LI ob ns cap L) (h : SI ob L E A C l P) (cE : E < c) (cL : c ≤ L) (k4 : lgo ob 0 c = 4) (hn : ∀ j, E < j → j < c → ¬ lgo ob 0 j = 4)
    (ql : QL r (l ++ tx (lgo ob) c)) (ri : ∀ j, ¬ j = 9 → ¬ j = 5 → gI r j = gI ob j) (r5 : gI r 5 = n32 c) (ra : ∀ j x, j ≤ 12 → gA r j x = gA ob j x) : SI r L c A C (l ++ tx (lgo ob) c) P := by
  have el := lgq ra
  have hw : LW (lgo ob) c := ⟨fun p x y w => hI.lw.ky p x (by omega) w, fun d x y w => hI.lw.cm d x (by omega) w⟩
  obtain ⟨a1, a2, a3, a4, a5, a6, a7, a8, a9, a10, a11⟩ := h
  refine ⟨r5, (ri 6 (by decide) (by decide)).trans a2, (ri 7 (by decide) (by decide)).trans a3, ⟨cL, Or.inr (by rw [el]; exact k4)⟩, ⟨a5.1, by rw [el]; exact a5.2⟩, ⟨a6.1, by rw [el]; exact a6.2⟩, fun k hk => ?_, ql, ?_, fun k hk => ?_, ?_⟩
  · rw [el, ← a7 k hk]; unfold tv; rw [ra 9 _ (by omega), ra 10 _ (by omega)]
  · rw [el, cl_tx hw k4 (by omega), List.length_append]
    have e1 := cl_skip (lg := lgo ob) (E := E) (c - 1 - E) (fun j x y => hn j x (by omega))
    rw [show E + (c - 1 - E) = c - 1 by omega] at e1
    have e2 : cN (cl (lgo ob) (c - 1)) c = cN (cl (lgo ob) E) c := cN_eq c (fun i _ => e1 i)
    have e3 : cN (cl (lgo ob) E) (E + 1) ≤ cN (cl (lgo ob) E) c := by
      have g : ∀ m, cN (cl (lgo ob) E) (E + 1) ≤ cN (cl (lgo ob) E) (E + 1 + m) := by
        intro m
        induction m with
        | zero => exact Nat.le_refl _
        | succ m ih => show _ ≤ cN (cl (lgo ob) E) (E + 1 + m) + _; omega
      have := g (c - (E + 1))
      rw [show E + 1 + (c - (E + 1)) = c by omega] at this; exact this
    omega
  · rw [← a10 k hk]; unfold pv; rw [ra 11 _ (by omega), ra 12 _ (by omega)]
  · rw [el]; exact QS_emit a11 cE k4 hn
theorem SI_room {ob : Rec} {ns cap : Int32} {L E A C c : Nat} {l : List Msg} {P : Pd} (hI : LI ob ns cap L) (hcap : cap.toInt ≤ 64) (h : SI ob L E A C l P) (cE : E < c) (cL : c ≤ L) (k4 : lgo ob 0 c = 4) (hn : ∀ j, E < j → j < c → ¬ lgo ob 0 j = 4) : l.length + (tx (lgo ob) c).length ≤ 66 := by
  have hw : LW (lgo ob) c := ⟨fun p x y w => hI.lw.ky p x (by omega) w, fun d x y w => hI.lw.cm d x (by omega) w⟩
  have e0 := cl_tx hw k4 (by omega)
  have e1 := cl_skip (lg := lgo ob) (E := E) (c - 1 - E) (fun j x y => hn j x (by omega))
  rw [show E + (c - 1 - E) = c - 1 by omega] at e1
  have e2 : cN (cl (lgo ob) (c - 1)) c = cN (cl (lgo ob) E) c := cN_eq c (fun i _ => e1 i)
  have e3 : cN (cl (lgo ob) E) (E + 1) ≤ cN (cl (lgo ob) E) c := by
    have g : ∀ m, cN (cl (lgo ob) E) (E + 1) ≤ cN (cl (lgo ob) E) (E + 1 + m) := by
      intro m
      induction m with
      | zero => exact Nat.le_refl _
      | succ m ih => show _ ≤ cN (cl (lgo ob) E) (E + 1 + m) + _; omega
    have := g (c - (E + 1))
    rw [show E + 1 + (c - (E + 1)) = c by omega] at this; exact this
  have e4 := cN_b (cl (lgo ob) c) (c + 1)
  have e5 := h.qw
  have e6 := hI.lc
  omega
theorem om1 {E e L : Nat} (a : E ≤ e) (b : e ≤ L) : e - E + (L - e) = L - E := by omega
theorem om2 {E e c : Nat} (a : E ≤ e) (b : e < c) : e - E + (c - 1 - e) = c - 1 - E ∧ c - E = (c - 1 - E) + 1 ∧ E + (c - 1 - E) + 1 = c := by omega
theorem om3 {L e c m : Nat} (a : L - e ≤ m + 1) (b : e < c) (d : c ≤ L) : L - c ≤ m := by omega
theorem str_l (NF : Nat) (hNF : 200 < NF) (lg : Lg) (ns cap : Int32) (hcap : cap.toInt ≤ 64) (n : Int32) (L E A C : Nat) (hEL : E ≤ L) (P : Pd) (q0 : Nat) : ∀ (m fuel : Nat) (ob : Rec) (e k : Nat) (l : List Msg), m < fuel → L - e ≤ m → E ≤ e → lgo ob = lg → LI ob ns cap L → SI ob L e A C l P → sc lg n.toInt E (e - E) = (e, k) → q0 + k ≤ l.length →
    ∃ r l', X_stream_l10 NF fuel ob n (n32 k) (n32 k) = some (n32 (sc lg n.toInt E (L - E)).2, r) ∧ LI r ns cap L ∧ SI r L (sc lg n.toInt E (L - E)).1 A C l' P ∧ q0 + (sc lg n.toInt E (L - E)).2 ≤ l'.length ∧ (∀ j, ¬ j = 5 → ¬ j = 9 → gI r j = gI ob j) ∧ (∀ j x, j ≤ 12 → gA r j x = gA ob j x) := by
  intro m
  induction m with
  | zero =>
    intro fuel ob e k l hf h1 hEe hg hI hS hsc hq
    obtain ⟨f, rfl⟩ : ∃ f, fuel = f + 1 := ⟨fuel - 1, by omega⟩
    have lc := hI.lc
    have eL := hS.hE.1
    have kb := (sc_b lg n.toInt E (e - E)).1
    rw [hsc] at kb
    have kb' : k ≤ e - E := kb
    have ee : e = L := by omega
    rw [ee] at hsc hS
    rw [hsc]
    refine ⟨ob, l, ?_, hI, hS, hq, fun _ _ _ => rfl, fun _ _ _ => rfl⟩
    show X_stream_w10 NF _ ob n (n32 k) (n32 k) = _
    unfold X_stream_w10
    rw [if_pos (by rw [lt_i, nt k (by omega)]; show (k : Int) < 129; omega)]
    by_cases c : n32 k < n
    · rw [if_pos c, hS.e5]
      rcases nc_e NF hNF hI.e4 (by omega) (Nat.le_refl L) with ⟨a, -⟩ | ⟨c, c1, c2, -⟩
      · rw [a, Option.bind_some, if_pos rfl]
      · omega
    · rw [if_neg c]
  | succ m ih =>
    intro fuel ob e k l hf h1 hEe hg hI hS hsc hq
    obtain ⟨f, rfl⟩ : ∃ f, fuel = f + 1 := ⟨fuel - 1, by omega⟩
    have lc := hI.lc
    have eL := hS.hE.1
    have kb := (sc_b lg n.toInt E (e - E)).1
    rw [hsc] at kb
    have kb' : k ≤ e - E := kb
    have kt : (n32 k).toInt = k := nt k (by omega)
    show ∃ r l', X_stream_w10 NF (X_stream_l10 NF f) ob n (n32 k) (n32 k) = _ ∧ _
    unfold X_stream_w10
    rw [if_pos (by rw [lt_i, kt]; show (k : Int) < 129; omega)]
    have stop : ((k : Int) < n.toInt → ∀ j, e < j → j ≤ L → ¬ lg 0 j = 4) → sc lg n.toInt E (L - E) = (e, k) := fun h => by
      have := sc_same lg n.toInt E (e - E) (L - e) (fun a j x y => by rw [hsc] at a; exact h a j (by omega) (by omega))
      rw [om1 hEe eL] at this
      rw [this, hsc]
    by_cases c : n32 k < n
    · rw [if_pos c, hS.e5]
      have c' : (k : Int) < n.toInt := by rw [lt_i, kt] at c; exact c
      rcases nc_e NF hNF hI.e4 (by omega) eL with ⟨a, b⟩ | ⟨c, c1, c2, c3, c4, c5⟩
      · rw [a, Option.bind_some, if_pos rfl, stop (fun _ => by rw [← hg]; exact b)]
        exact ⟨ob, l, rfl, hI, hS, hq, fun _ _ _ => rfl, fun _ _ _ => rfl⟩
      · rw [c5, Option.bind_some, if_neg (show ¬ n32 c = 0 from n32_ne (j := 0) (by omega) (by omega) (by omega))]
        have room := SI_room hI hcap hS c1 c2 c3 c4
        have cm := hI.lw.cm c (by omega) c2 c3
        obtain ⟨r, r1, r2, r3, r4⟩ := emt_e NF hNF (by omega) ⟨cm.1, cm.2.1⟩ hS.ql (by omega)
        rw [r1, Option.bind_some, n32_s (by omega)]
        have nI : ∀ j, ¬ j = 5 → ¬ j = 9 → gI (sI r 5 (n32 c)) j = gI ob j := fun j a b => by rw [gI_sI, if_neg a]; exact r3 j b
        have nA : ∀ j x, j ≤ 12 → gA (sI r 5 (n32 c)) j x = gA ob j x := r4
        have hsc' : sc lg n.toInt E (c - E) = (c, k + 1) := by
          have := sc_same lg n.toInt E (e - E) (c - 1 - e) (fun a j x y => by rw [← hg]; exact c4 j (by omega) (by omega))
          rw [(om2 hEe c1).1] at this
          rw [(om2 hEe c1).2.1]
          show (if ((sc lg n.toInt E (c - 1 - E)).2 : Int) < n.toInt ∧ lg 0 (E + (c - 1 - E) + 1) = 4 then (E + (c - 1 - E) + 1, (sc lg n.toInt E (c - 1 - E)).2 + 1) else _) = _
          rw [this, hsc, (om2 hEe c1).2.2, if_pos ⟨c', by rw [← hg]; exact c3⟩]
        obtain ⟨w, l', w1, w2, w3, w4, w5, w6⟩ := ih f (sI r 5 (n32 c)) c (k + 1) (l ++ tx (lgo ob) c) (by omega) (om3 h1 c1 c2) (Nat.le_of_lt (Nat.lt_of_le_of_lt hEe c1)) ((lgq nA).trans hg) (LI_c hI (fun j hj => nI j (by omega) (by omega)) (fun j x hj => nA j x (by omega))) (SI_em hI hS c1 c2 c3 c4 r2 (fun j a b => nI j b a) rfl nA) hsc' (by rw [List.length_append]; have := tx_pos (lgo ob) c; omega)
        exact ⟨w, l', w1, w2, w3, w4, fun j a b => (w5 j a b).trans (nI j a b), fun j x a => (w6 j x a).trans (nA j x a)⟩
    · have c' : ¬ (k : Int) < n.toInt := by rw [lt_i, kt] at c; exact c
      rw [if_neg c, stop (fun a => absurd a c')]
      exact ⟨ob, l, rfl, hI, hS, hq, fun _ _ _ => rfl, fun _ _ _ => rfl⟩
theorem str_e (NF : Nat) (hNF : 200 < NF) {ob : Rec} {ns cap : Int32} {L E A C : Nat} {l : List Msg} {P : Pd} (hI : LI ob ns cap L) (hcap : cap.toInt ≤ 64) (h : SI ob L E A C l P) (n : Int32) :
    ∃ r l', X_stream NF ob n = some (n32 (sc (lgo ob) n.toInt E (L - E)).2, r) ∧ LI r ns cap L ∧ SI r L (sc (lgo ob) n.toInt E (L - E)).1 A C l' P ∧ l.length + (sc (lgo ob) n.toInt E (L - E)).2 ≤ l'.length ∧ (∀ j, ¬ j = 5 → ¬ j = 9 → gI r j = gI ob j) ∧ (∀ j x, j ≤ 12 → gA r j x = gA ob j x) := by
  unfold X_stream
  have lc := hI.lc
  by_cases c : 0 < n
  · rw [if_pos c]
    exact str_l NF hNF (lgo ob) ns cap hcap n L E A C h.hE.1 P l.length 100 NF ob E 0 l (by omega) (by omega) (Nat.le_refl _) rfl hI h (by rw [Nat.sub_self]; rfl) (Nat.le_refl _)
  · have c' : ¬ 0 < n.toInt := fun x => c (lt_i.mpr x)
    have := sc_same (lgo ob) n.toInt E 0 (L - E) (fun a => absurd a c')
    rw [Nat.zero_add] at this
    rw [if_neg c, this]
    exact ⟨ob, l, rfl, hI, h, Nat.le_refl _, fun _ _ _ => rfl, fun _ _ _ => rfl⟩
theorem pv_1 {ob : Rec} {k : Nat} (h : gA ob 11 (n32 k) = 1) : pv ob k = some (some (gA ob 12 (n32 k))) := by unfold pv; rw [if_pos h]
theorem pv_2 {ob : Rec} {k : Nat} (h : gA ob 11 (n32 k) = 2) : pv ob k = some none := by unfold pv; rw [if_neg (by rw [h]; decide), if_pos h]
theorem pv_3 {ob : Rec} {k : Nat} (h1 : ¬ gA ob 11 (n32 k) = 1) (h2 : ¬ gA ob 11 (n32 k) = 2) : pv ob k = none := by unfold pv; rw [if_neg h1, if_neg h2]
theorem tvc {ob r : Rec} {a b k : Nat} (h : gA r a (n32 k) = gA ob a (n32 k)) (h' : gA r b (n32 k) = gA ob b (n32 k)) : tv r a b k = tv ob a b k := by unfold tv; rw [h, h']
theorem pvc {ob r : Rec} {k : Nat} (h : gA r 11 (n32 k) = gA ob 11 (n32 k)) (h' : gA r 12 (n32 k) = gA ob 12 (n32 k)) : pv r k = pv ob k := by unfold pv; rw [h, h']
def pva (p : Option (Option Int32)) (t : Option Int32) : Option Int32 := match p with
  | none => t
  | some x => x
/-- the pending changes go into the subscriber's table -/
theorem apn (NF : Nat) : ∀ (m fuel : Nat) (ob : Rec) (i : Nat), m < fuel → i ≤ 8 → 8 - i ≤ m → gI ob 0 = 8 →
    ∃ r, X_applyPending_l2 NF fuel ob (n32 i) = some r ∧ r.1 = ob.1 ∧ (∀ j x, (j < 9 ∨ 12 < j) → gA r j x = gA ob j x) ∧ (∀ k, k < i → tv r 9 10 k = tv ob 9 10 k ∧ pv r k = pv ob k) ∧ (∀ k, i ≤ k → k < 8 → tv r 9 10 k = pva (pv ob k) (tv ob 9 10 k) ∧ pv r k = none) := by
  intro m
  induction m with
  | zero =>
    intro fuel ob i hf h1 h2 h0
    obtain ⟨f, rfl⟩ : ∃ f, fuel = f + 1 := ⟨fuel - 1, by omega⟩
    refine ⟨ob, ?_, rfl, fun _ _ _ => rfl, fun _ _ => ⟨rfl, rfl⟩, fun k a b => by omega⟩
    show X_applyPending_w2 NF _ ob (n32 i) = _
    unfold X_applyPending_w2; rw [h0, if_neg (by rw [lt_i, nt i (by omega)]; show ¬ (i : Int) < 8; omega)]
  | succ m ih =>
    intro fuel ob i hf h1 h2 h0
    obtain ⟨f, rfl⟩ : ∃ f, fuel = f + 1 := ⟨fuel - 1, by omega⟩
    show ∃ r, X_applyPending_w2 NF (X_applyPending_l2 NF f) ob (n32 i) = _ ∧ _
    unfold X_applyPending_w2; rw [h0]
    by_cases c : i = 8
    · rw [if_neg (by rw [lt_i, nt i (by omega)]; show ¬ (i : Int) < 8; omega)]
      exact ⟨ob, rfl, rfl, fun _ _ _ => rfl, fun _ _ => ⟨rfl, rfl⟩, fun k a b => by omega⟩
    · have q : ∀ A : Option Rec, chk 32 (n32 i) A = A := fun A => ck32 (m := 32) rfl (by omega) (by omega)
      rw [if_pos (by rw [lt_i, nt i (by omega)]; show (i : Int) < 8; omega), if_pos (by rw [lt_i, nt i (by omega)]; show (i : Int) < 32; omega), q]
      have nx : ∀ ob', ob'.1 = ob.1 → (∀ j x, (j < 9 ∨ 12 < j) → gA ob' j x = gA ob j x) → (∀ j x, ¬ x = n32 i → gA ob' j x = gA ob j x) → tv ob' 9 10 i = pva (pv ob i) (tv ob 9 10 i) → pv ob' i = none →
          ∃ r, X_applyPending_l2 NF f ob' (n32 i + 1) = some r ∧ r.1 = ob.1 ∧ (∀ j x, (j < 9 ∨ 12 < j) → gA r j x = gA ob j x) ∧ (∀ k, k < i → tv r 9 10 k = tv ob 9 10 k ∧ pv r k = pv ob k) ∧ (∀ k, i ≤ k → k < 8 → tv r 9 10 k = pva (pv ob k) (tv ob 9 10 k) ∧ pv r k = none) := by
        intro ob' e1 e2 e3 e4 e5
        rw [n32_s (by omega)]
        obtain ⟨r, r1, r2, r3, r4, r5⟩ := ih f ob' (i + 1) (by omega) (by omega) (by omega) (by unfold gI; rw [e1]; exact h0)
        have oth : ∀ k, k < 8 → ¬ k = i → tv ob' 9 10 k = tv ob 9 10 k ∧ pv ob' k = pv ob k := fun k hk hne => by
          have ne : ¬ n32 k = n32 i := n32_ne (by omega) (by omega) hne
          exact ⟨tvc (e3 _ _ ne) (e3 _ _ ne), pvc (e3 _ _ ne) (e3 _ _ ne)⟩
        refine ⟨r, r1, r2.trans e1, fun j x hj => (r3 j x hj).trans (e2 j x hj), fun k hk => ?_, fun k a b => ?_⟩
        · have := oth k (by omega) (by omega)
          rw [← this.1, ← this.2]; exact r4 k (by omega)
        · by_cases d : k = i
          · rw [d, (r4 i (by omega)).1, (r4 i (by omega)).2]; exact ⟨e4, e5⟩
          · have := oth k b d
            rw [← this.1, ← this.2]; exact r5 k (by omega) b
      by_cases d : gA ob 11 (n32 i) = 1
      · rw [if_pos d, q, q, q, q, q]
        apply nx
        · rfl
        · intro j x hj; simp [gA_sA, show ¬ j = 9 by omega, show ¬ j = 10 by omega, show ¬ j = 11 by omega, show ¬ j = 12 by omega]
        · intro j x hx; simp [gA_sA, hx]
        · rw [pv_1 d]; unfold tv pva; simp [gA_sA]
        · exact pv_3 (by simp [gA_sA]) (by simp [gA_sA])
      · rw [if_neg d, q]
        by_cases e : gA ob 11 (n32 i) = 2
        · rw [if_pos e, q, q, q]
          apply nx
          · rfl
          · intro j x hj; simp [gA_sA, show ¬ j = 9 by omega, show ¬ j = 11 by omega, show ¬ j = 12 by omega]
          · intro j x hx; simp [gA_sA, hx]
          · rw [pv_2 e]; unfold tv pva; simp [gA_sA]
          · exact pv_3 (by simp [gA_sA]) (by simp [gA_sA])
        · rw [if_neg e, q, q]
          apply nx
          · rfl
          · intro j x hj; simp [gA_sA, show ¬ j = 11 by omega, show ¬ j = 12 by omega]
          · intro j x hx; simp [gA_sA, hx]
          · rw [pv_3 d e]; unfold tv pva; simp [gA_sA]
          · exact pv_3 (by simp [gA_sA]) (by simp [gA_sA])
theorem apn_e (NF : Nat) (hNF : 200 < NF) {ob : Rec} (h0 : gI ob 0 = 8) : ∃ r, X_applyPending NF ob = some r ∧ r.1 = ob.1 ∧ (∀ j x, (j < 9 ∨ 12 < j) → gA r j x = gA ob j x) ∧ (∀ k, k < 8 → tv r 9 10 k = pva (pv ob k) (tv ob 9 10 k) ∧ pv r k = none) := by
  obtain ⟨r, r1, r2, r3, -, r5⟩ := apn NF 20 NF ob 0 (by omega) (by omega) (by omega) h0
  exact ⟨r, r1, r2, r3, fun k hk => r5 k (by omega) hk⟩
/-- the head of the queue goes -/
theorem QL_tl {ob r : Rec} {m : Msg} {l : List Msg} (h : QL ob (m :: l)) (h8 : gI r 8 = (gI ob 8 + 1) % 128) (h9 : gI r 9 = gI ob 9 - 1) (hA : ∀ j x, 13 ≤ j → gA r j x = gA ob j x) : QL r l := by
  obtain ⟨q, q1, q2, q3, q4, q5⟩ := h
  have q3' : gI ob 9 = n32 (l.length + 1) := q3
  have q4' : l.length + 1 ≤ 128 := q4
  refine ⟨(q + 1) % 128, Nat.mod_lt _ (by omega), ?_, ?_, by omega, fun i hi => ?_⟩
  · rw [h8, q2, n32_s (by omega), n32_m (by omega)]
  · rw [h9, q3', n32_p (by omega)]
  · have := q5 (i + 1) (by show i + 1 < l.length + 1; omega)
    have e : qi q (i + 1) = qi ((q + 1) % 128) i := by unfold qi; congr 1; omega
    rw [e] at this
    have t : l[i]? = some (qm ob (qi ((q + 1) % 128) i)) := this
    rw [t]; unfold qm; rw [hA 13 _ (by omega), hA 14 _ (by omega), hA 15 _ (by omega), hA 16 _ (by omega)]
theorem QL_hd {ob : Rec} {m : Msg} {l : List Msg} (h : QL ob (m :: l)) : In 128 (gI ob 8) ∧ m = (gA ob 13 (gI ob 8), gA ob 14 (gI ob 8), gA ob 15 (gI ob 8), gA ob 16 (gI ob 8)) := by
  obtain ⟨q, q1, q2, q3, q4, q5⟩ := h
  have := q5 0 (by show 0 < l.length + 1; omega)
  have e : qi q 0 = n32 q := by unfold qi; rw [Nat.add_zero, Nat.mod_eq_of_lt q1]
  rw [e] at this
  have t : some m = some (qm ob (n32 q)) := this
  rw [q2]
  exact ⟨ni (n := 128) q1 (by decide), Option.some.inj t⟩
theorem hh_e (NF : Nat) (hNF : 200 < NF) {ob : Rec} {ns cap : Int32} {L E A C : Nat} {m : Msg} {l : List Msg} {P : Pd} (hI : LI ob ns cap L) (hcap : cap.toInt ≤ 64) (h : SI ob L E A C (m :: l) P) :
    ∃ r A' P', X_handleHead NF ob = some r ∧ SI r L E A' C l P' ∧ (A' = A ∨ (A < A' ∧ A' ≤ E ∧ lgo ob 0 A' = 4)) ∧ (∀ j, ¬ j = 6 → ¬ j = 8 → ¬ j = 9 → gI r j = gI ob j) ∧ (∀ j x, (j < 9 ∨ 12 < j) → gA r j x = gA ob j x) := by
  obtain ⟨hd8, hdm⟩ := QL_hd h.ql
  have lc := hI.lc
  have aL := h.hA.1
  have eL := h.hE.1
  have hw : LW (lgo ob) E := ⟨fun p x y w => hI.lw.ky p x (by omega) w, fun d x y w => hI.lw.cm d x (by omega) w⟩
  obtain ⟨c, c1, cE, k4, mp, cs⟩ := QS_step h.qs hw
  have q : ∀ A : Option Rec, chk 128 (gI ob 8) A = A := fun A => ckn (m := 128) rfl hd8
  have m1 : m.1 = gA ob 13 (gI ob 8) := by rw [hdm]
  have m2 : m.2.1 = gA ob 14 (gI ob 8) := by rw [hdm]
  have m3 : m.2.2.1 = gA ob 15 (gI ob 8) := by rw [hdm]
  have m4 : m.2.2.2 = gA ob 16 (gI ob 8) := by rw [hdm]
  unfold X_handleHead
  rw [if_neg (nneg hd8.1), if_pos (ltn (m := 128) rfl hd8.2)]
  unfold X_handleHead_b18
  rw [q, q, q, q, ← m1, ← m2, ← m3, ← m4, h.e6, mp]
  clear hdm
  generalize ho : sI (sI ob 8 ((gI ob 8 + 1) % 128)) 9 (gI ob 9 - 1) = o
  have oi : ∀ j, ¬ j = 8 → ¬ j = 9 → gI o j = gI ob j := fun j a b => by rw [← ho, gI_sI, if_neg b, gI_sI, if_neg a]
  have oa : ∀ j x, gA o j x = gA ob j x := fun j x => by rw [← ho]; rfl
  have o8 : gI o 8 = (gI ob 8 + 1) % 128 := by rw [← ho]; rfl
  have o9 : gI o 9 = gI ob 9 - 1 := by rw [← ho]; rfl
  obtain ⟨a1, a2, a3, a4, a5, a6, a7, a8, a9, a10, a11⟩ := h
  have a9' : l.length + 1 ≤ cN (cl (lgo ob) E) (E + 1) := a9
  rcases cs with ⟨s1, s2⟩ | ⟨s1, s2, s3, s4⟩ | ⟨s1, s2, s3, s4⟩
  · rw [if_neg (by rw [n32_lt (by omega) (by omega)]; omega)]
    have el : lgo o = lgo ob := lgo_c (fun j x _ => oa j x)
    refine ⟨o, A, P, rfl, ⟨?_, ?_, ?_, ?_, ?_, ?_, fun k hk => ?_, QL_tl a8 o8 o9 (fun j x _ => oa j x), ?_, fun k hk => ?_, ?_⟩, Or.inl rfl, fun j _ a b => oi j a b, fun j x _ => oa j x⟩
    · exact (oi 5 (by decide) (by decide)).trans a1
    · exact (oi 6 (by decide) (by decide)).trans a2
    · exact (oi 7 (by decide) (by decide)).trans a3
    · rw [el]; exact a4
    · rw [el]; exact a5
    · rw [el]; exact a6
    · rw [el, tvc (oa _ _) (oa _ _)]; exact a7 k hk
    · rw [el]; omega
    · rw [pvc (oa _ _) (oa _ _)]; exact a10 k hk
    · rw [el]; exact s2
  · rw [if_pos (by rw [n32_lt (by omega) (by omega)]; omega), if_pos s2]
    obtain ⟨r, r1, r2, r3, r4⟩ := apn_e NF hNF (ob := o) ((oi 0 (by decide) (by decide)).trans hI.cf.1)
    rw [r1, Option.bind_some]
    generalize hz : sI r 6 (n32 c) = z
    have zi : ∀ j, ¬ j = 6 → gI z j = gI o j := fun j a => by rw [← hz, gI_sI, if_neg a]; unfold gI; rw [r2]
    have za : ∀ j x, gA z j x = gA r j x := fun j x => by rw [← hz]; rfl
    have zo : ∀ j x, (j < 9 ∨ 12 < j) → gA z j x = gA ob j x := fun j x hj => by rw [za, r3 j x hj, oa]
    have el : lgo z = lgo ob := lgo_c (fun j x hj => zo j x (by omega))
    refine ⟨z, c, fun _ => none, rfl, ⟨?_, ?_, ?_, ?_, ⟨by omega, Or.inr (by rw [el]; exact k4)⟩, ?_, fun k hk => ?_, QL_tl a8 ((zi 8 (by decide)).trans o8) ((zi 9 (by decide)).trans o9) (fun j x hj => zo j x (by omega)), ?_, fun k hk => ?_, ?_⟩, Or.inr ⟨s1, cE, k4⟩, fun j a b d => (zi j a).trans (oi j b d), zo⟩
    · exact ((zi 5 (by decide)).trans (oi 5 (by decide) (by decide))).trans a1
    · rw [← hz]; rfl
    · exact ((zi 7 (by decide)).trans (oi 7 (by decide) (by decide))).trans a3
    · rw [el]; exact a4
    · rw [el]; exact ⟨by omega, a6.2⟩
    · rw [el, s4, tvc (za _ _) (za _ _), (r4 k hk).1, pvc (oa _ _) (oa _ _), tvc (oa _ _) (oa _ _), a10 k hk, a7 k hk]
      unfold apd pva; rfl
    · rw [el]; omega
    · rw [pvc (za _ _) (za _ _)]; exact (r4 k hk).2
    · rw [el]; exact s3
  · have n4 : ¬ m.1 = 4 := by rcases s2 with s2 | s2 <;> rw [s2] <;> decide
    rw [if_pos (by rw [n32_lt (by omega) (by omega)]; omega), if_neg n4, if_neg (nneg s3.1), if_pos (by rw [lt_i]; show m.2.1.toInt < 32; omega)]
    have q' : ∀ A : Option Rec, chk 32 m.2.1 A = A := fun A => ckn (m := 32) rfl ⟨s3.1, by omega⟩
    have fin : ∀ z, (∀ j, gI z j = gI o j) → (∀ j x, ¬ j = 11 → ¬ j = 12 → gA z j x = gA o j x) → (∀ k, k < 8 → pv z k = if k = m.2.1.toInt.toNat then some (if m.1 = 2 then some m.2.2.1 else none) else pv ob k) →
        SI z L E A C l (fun k => if k = m.2.1.toInt.toNat then some (if m.1 = 2 then some m.2.2.1 else none) else P k) ∧ (A = A ∨ (A < A ∧ A ≤ E ∧ lgo ob 0 A = 4)) ∧ (∀ j, ¬ j = 6 → ¬ j = 8 → ¬ j = 9 → gI z j = gI ob j) ∧ (∀ j x, (j < 9 ∨ 12 < j) → gA z j x = gA ob j x) := by
      intro z zi za zp
      have zo : ∀ j x, (j < 11 ∨ 12 < j) → gA z j x = gA ob j x := fun j x hj => by rw [za j x (by omega) (by omega), oa]
      have el : lgo z = lgo ob := lgo_c (fun j x hj => zo j x (by omega))
      refine ⟨⟨?_, ?_, ?_, ?_, ?_, ?_, fun k hk => ?_, QL_tl a8 ((zi 8).trans o8) ((zi 9).trans o9) (fun j x hj => zo j x (by omega)), ?_, fun k hk => ?_, ?_⟩, Or.inl rfl, fun j a b d => (zi j).trans (oi j b d), fun j x hj => zo j x (by omega)⟩
      · exact ((zi 5).trans (oi 5 (by decide) (by decide))).trans a1
      · exact ((zi 6).trans (oi 6 (by decide) (by decide))).trans a2
      · exact ((zi 7).trans (oi 7 (by decide) (by decide))).trans a3
      · rw [el]; exact a4
      · rw [el]; exact a5
      · rw [el]; exact a6
      · rw [el, tvc (zo _ _ (by omega)) (zo _ _ (by omega))]; exact a7 k hk
      · rw [el]; omega
      · rw [zp k hk, a10 k hk]
      · rw [el]; exact s4
    by_cases d : m.1 = 2
    · rw [if_pos d, q', q']
      refine ⟨_, A, _, rfl, fin _ (fun j => rfl) (fun j x a b => by rw [gA_sA, if_neg (fun e => b e.1), gA_sA, if_neg (fun e => a e.1)]) (fun k hk => ?_)⟩
      rw [if_pos d]
      have := n32k hk s3
      by_cases e : k = m.2.1.toInt.toNat
      · rw [if_pos e, pv_1 (by rw [this.mpr e]; simp [gA_sA]), this.mpr e]; simp [gA_sA]
      · have e' : ¬ n32 k = m.2.1 := fun x => e (this.mp x)
        rw [if_neg e]
        exact pvc (by simp [gA_sA, e', oa]) (by simp [gA_sA, e', oa])
    · have d3 : m.1 = 3 := s2.resolve_left d
      rw [if_neg d, if_pos d3, q', q']
      refine ⟨_, A, _, rfl, fin _ (fun j => rfl) (fun j x a b => by rw [gA_sA, if_neg (fun e => b e.1), gA_sA, if_neg (fun e => a e.1)]) (fun k hk => ?_)⟩
      rw [if_neg d]
      have := n32k hk s3
      by_cases e : k = m.2.1.toInt.toNat
      · rw [if_pos e, pv_2 (by rw [this.mpr e]; simp [gA_sA])]
      · have e' : ¬ n32 k = m.2.1 := fun x => e (this.mp x)
        rw [if_neg e]
        exact pvc (by simp [gA_sA, e', oa]) (by simp [gA_sA, e', oa])
/-- apply: so many messages handled -/
theorem apl_l (NF : Nat) (hNF : 200 < NF) (ns cap : Int32) (hcap : cap.toInt ≤ 64) (n : Int32) (L E C : Nat) : ∀ (l : List Msg) (fuel : Nat) (ob : Rec) (A k : Nat) (P : Pd), l.length < fuel → k + l.length ≤ 128 → LI ob ns cap L → SI ob L E A C l P →
    ∃ r A' P', X_apply_l10 NF fuel ob n (n32 k) (n32 k) = some (n32 (k + min (n.toInt.toNat - k) l.length), r) ∧ LI r ns cap L ∧ SI r L E A' C (l.drop (min (n.toInt.toNat - k) l.length)) P' ∧ (A' = A ∨ (A < A' ∧ A' ≤ E ∧ lgo ob 0 A' = 4)) ∧ (∀ j, ¬ j = 6 → ¬ j = 8 → ¬ j = 9 → gI r j = gI ob j) ∧ (∀ j x, (j < 9 ∨ 12 < j) → gA r j x = gA ob j x) := by
  intro l
  induction l with
  | nil =>
    intro fuel ob A k P hf hk hI hS
    obtain ⟨f, rfl⟩ : ∃ f, fuel = f + 1 := ⟨fuel - 1, by omega⟩
    have hk' : k ≤ 128 := hk
    have kt : (n32 k).toInt = k := nt k (by omega)
    refine ⟨ob, A, P, ?_, hI, by rw [List.drop_nil]; exact hS, Or.inl rfl, fun _ _ _ _ => rfl, fun _ _ _ => rfl⟩
    show X_apply_w10 NF _ ob n (n32 k) (n32 k) = some (n32 (k + min (n.toInt.toNat - k) 0), ob)
    rw [Nat.min_zero, Nat.add_zero]
    unfold X_apply_w10
    obtain ⟨q, -, -, q3, -⟩ := hS.ql
    have q3' : gI ob 9 = 0 := q3
    rw [if_neg (by rw [lt_i, kt]; show ¬ (128 : Int) < k; omega), q3']
    by_cases c : n32 k < n
    · rw [if_pos c, if_neg (by decide)]
    · rw [if_neg c]
  | cons m l ih =>
    intro fuel ob A k P hf hk hI hS
    obtain ⟨f, rfl⟩ : ∃ f, fuel = f + 1 := ⟨fuel - 1, by omega⟩
    have hk' : k + (l.length + 1) ≤ 128 := hk
    have hf' : l.length + 1 < f + 1 := hf
    have kt : (n32 k).toInt = k := nt k (by omega)
    show ∃ r A' P', X_apply_w10 NF (X_apply_l10 NF f) ob n (n32 k) (n32 k) = some (n32 (k + min (n.toInt.toNat - k) (l.length + 1)), r) ∧ LI r ns cap L ∧ SI r L E A' C ((m :: l).drop (min (n.toInt.toNat - k) (l.length + 1))) P' ∧ _
    unfold X_apply_w10
    rw [if_neg (by rw [lt_i, kt]; show ¬ (128 : Int) < k; omega)]
    by_cases c : n32 k < n
    · have c' : (k : Int) < n.toInt := by rw [lt_i, kt] at c; exact c
      have q3' : gI ob 9 = n32 (l.length + 1) := by obtain ⟨q, -, -, q3, -⟩ := hS.ql; exact q3
      rw [if_pos c, q3', if_pos (by rw [lt_i, nt _ (by omega)]; show (0 : Int) < ((l.length + 1 : Nat) : Int); omega)]
      obtain ⟨r, A1, P1, r1, r2, r3, r4, r5⟩ := hh_e NF hNF hI hcap hS
      rw [r1, Option.bind_some, n32_s (by omega)]
      have hI' : LI r ns cap L := LI_c hI (fun j hj => r4 j (by omega) (by omega) (by omega)) (fun j x hj => r5 j x (by omega))
      obtain ⟨w, A2, P2, w1, w2, w3, w4, w5, w6⟩ := ih f r A1 (k + 1) P1 (by omega) (by omega) hI' r2
      have el : lgo r = lgo ob := lgo_c (fun j x hj => r5 j x (by omega))
      have e1 : min (n.toInt.toNat - k) (l.length + 1) = min (n.toInt.toNat - (k + 1)) l.length + 1 := by clear w3 r2 hS ih hI hI' w2; omega
      have e2 : k + (min (n.toInt.toNat - (k + 1)) l.length + 1) = k + 1 + min (n.toInt.toNat - (k + 1)) l.length := by clear w3 r2 hS ih hI hI' w2; omega
      rw [e1, e2, List.drop_succ_cons]
      refine ⟨w, A2, P2, w1, w2, w3, ?_, fun j a b d => (w5 j a b d).trans (r4 j a b d), fun j x hj => (w6 j x hj).trans (r5 j x hj)⟩
      rw [el] at w4
      rcases w4 with w4 | w4
      · rw [w4]; exact r3
      · rcases r3 with r3 | r3
        · rw [r3] at w4; exact Or.inr w4
        · exact Or.inr ⟨Nat.lt_trans r3.1 w4.1, w4.2⟩
    · have c' : ¬ (k : Int) < n.toInt := by rw [lt_i, kt] at c; exact c
      have e1 : n.toInt.toNat - k = 0 := by clear hS ih hI; omega
      rw [if_neg c, e1, Nat.zero_min, Nat.add_zero]
      exact ⟨ob, A, P, rfl, hI, hS, Or.inl rfl, fun _ _ _ _ => rfl, fun _ _ _ => rfl⟩
theorem apl_e (NF : Nat) (hNF : 200 < NF) {ob : Rec} {ns cap : Int32} {L E A C : Nat} {l : List Msg} {P : Pd} (hI : LI ob ns cap L) (hcap : cap.toInt ≤ 64) (h : SI ob L E A C l P) (n : Int32) :
    ∃ r A' P', X_apply NF ob n = some (n32 (min n.toInt.toNat l.length), r) ∧ LI r ns cap L ∧ SI r L E A' C (l.drop (min n.toInt.toNat l.length)) P' ∧ (A' = A ∨ (A < A' ∧ A' ≤ E ∧ lgo ob 0 A' = 4)) ∧ (∀ j, ¬ j = 6 → ¬ j = 8 → ¬ j = 9 → gI r j = gI ob j) ∧ (∀ j x, (j < 9 ∨ 12 < j) → gA r j x = gA ob j x) := by
  have ll : l.length ≤ 128 := by obtain ⟨q, -, -, -, q4, -⟩ := h.ql; exact q4
  unfold X_apply
  by_cases c : 0 < n
  · rw [if_pos c]
    have := apl_l NF hNF ns cap hcap n L E C l NF ob A 0 P (by omega) (by omega) hI h
    rw [Nat.sub_zero, Nat.zero_add] at this
    exact this
  · have c' : ¬ 0 < n.toInt := fun x => c (lt_i.mpr x)
    have e1 : n.toInt.toNat = 0 := by clear h hI; omega
    rw [if_neg c, e1, Nat.zero_min]
    exact ⟨ob, A, P, rfl, hI, h, Or.inl rfl, fun _ _ _ _ => rfl, fun _ _ _ => rfl⟩
theorem cp_l (NF : Nat) : ∀ (m fuel : Nat) (ob : Rec) (i : Nat), m < fuel → i ≤ 32 → 32 - i ≤ m →
    ∃ r, X_clearPending_l2 NF fuel ob (n32 i) = some r ∧ r.1 = ob.1 ∧ (∀ j x, ¬ j = 11 → ¬ j = 12 → gA r j x = gA ob j x) ∧ (∀ k, k < i → gA r 11 (n32 k) = gA ob 11 (n32 k)) ∧ (∀ k, i ≤ k → k < 32 → gA r 11 (n32 k) = 0) := by
  intro m
  induction m with
  | zero =>
    intro fuel ob i hf h1 h2
    obtain ⟨f, rfl⟩ : ∃ f, fuel = f + 1 := ⟨fuel - 1, by omega⟩
    refine ⟨ob, ?_, rfl, fun _ _ _ _ => rfl, fun _ _ => rfl, fun k a b => by omega⟩
    show X_clearPending_w2 NF _ ob (n32 i) = _
    unfold X_clearPending_w2; rw [if_neg (by rw [lt_i, nt i (by omega)]; show ¬ (i : Int) < 32; omega)]
  | succ m ih =>
    intro fuel ob i hf h1 h2
    obtain ⟨f, rfl⟩ : ∃ f, fuel = f + 1 := ⟨fuel - 1, by omega⟩
    show ∃ r, X_clearPending_w2 NF (X_clearPending_l2 NF f) ob (n32 i) = _ ∧ _
    unfold X_clearPending_w2
    by_cases c : i = 32
    · rw [if_neg (by rw [lt_i, nt i (by omega)]; show ¬ (i : Int) < 32; omega)]
      exact ⟨ob, rfl, rfl, fun _ _ _ _ => rfl, fun _ _ => rfl, fun k a b => by omega⟩
    · have q : ∀ A : Option Rec, chk 32 (n32 i) A = A := fun A => ck32 (m := 32) rfl (by omega) (by omega)
      rw [if_pos (by rw [lt_i, nt i (by omega)]; show (i : Int) < 32; omega), q, q, n32_s (by omega)]
      obtain ⟨r, r1, r2, r3, r4, r5⟩ := ih f (sA (sA ob 11 (n32 i) 0) 12 (n32 i) 0) (i + 1) (by omega) (by omega) (by omega)
      refine ⟨r, r1, r2, fun j x a b => by rw [r3 j x a b, gA_sA, if_neg (fun e => b e.1), gA_sA, if_neg (fun e => a e.1)], fun k hk => ?_, fun k a b => ?_⟩
      · have ne : ¬ n32 k = n32 i := n32_ne (by omega) (by omega) (by omega)
        rw [r4 k (by omega)]; simp [gA_sA, ne]
      · by_cases d : k = i
        · rw [d, r4 i (by omega)]; simp [gA_sA]
        · exact r5 k (by omega) b
theorem cp_e (NF : Nat) (hNF : 200 < NF) (ob : Rec) : ∃ r, X_clearPending NF ob = some r ∧ r.1 = ob.1 ∧ (∀ j x, ¬ j = 11 → ¬ j = 12 → gA r j x = gA ob j x) ∧ (∀ k, k < 32 → gA r 11 (n32 k) = 0) := by
  obtain ⟨r, r1, r2, r3, -, r5⟩ := cp_l NF 40 NF ob 0 (by omega) (by omega) (by omega)
  exact ⟨r, r1, r2, r3, fun k hk => r5 k (by omega) hk⟩
/-- after a crash -/
theorem SI_cr {ob r : Rec} {L E A C : Nat} {l : List Msg} {P : Pd} (h : SI ob L E A C l P) (ri : ∀ j, ¬ j = 5 → ¬ j = 8 → ¬ j = 9 → gI r j = gI ob j) (r5 : gI r 5 = gI ob 7) (r8 : gI r 8 = 0) (r9 : gI r 9 = 0) (ra : ∀ j x, ¬ j = 5 → ¬ j = 11 → ¬ j = 12 → gA r j x = gA ob j x) (rp' : ∀ k, k < 32 → gA r 11 (n32 k) = 0) : SI r L C A C [] (fun _ => none) := by
  obtain ⟨a1, a2, a3, a4, a5, a6, a7, a8, a9, a10, a11⟩ := h
  have el : lgo r = lgo ob := lgo_c (fun j x hj => ra j x (by omega) (by omega) (by omega))
  refine ⟨r5.trans a3, (ri 6 (by decide) (by decide) (by decide)).trans a2, (ri 7 (by decide) (by decide) (by decide)).trans a3, ⟨by omega, by rw [el]; exact a6.2⟩, ⟨a5.1, by rw [el]; exact a5.2⟩, ⟨a6.1, by rw [el]; exact a6.2⟩, fun k hk => ?_, ⟨0, by omega, r8, r9, by show 0 ≤ 128; omega, fun i hi => absurd hi (Nat.not_lt_zero i)⟩, Nat.zero_le _, fun k hk => ?_, ?_⟩
  · rw [el, tvc (ra _ _ (by decide) (by decide) (by decide)) (ra _ _ (by decide) (by decide) (by decide))]; exact a7 k hk
  · have := rp' k (by omega)
    exact pv_3 (by rw [this]; decide) (by rw [this]; decide)
  · exact Or.inl ⟨C, Nat.le_refl _, a6.1, by rw [Nat.sub_self]; rfl, rfl⟩
theorem csu_e (NF : Nat) (hNF : 200 < NF) {ob : Rec} {ns cap : Int32} {L E A C : Nat} {l : List Msg} {P : Pd} (hI : LI ob ns cap L) (h : SI ob L E A C l P) :
    ∃ r, X_crashSubscriber NF ob = some r ∧ LI r ns cap L ∧ SI r L C A C [] (fun _ => none) ∧ (∀ j, ¬ j = 5 → ¬ j = 8 → ¬ j = 9 → gI r j = gI ob j) ∧ (∀ j x, j ≤ 10 → gA r j x = gA ob j x) := by
  unfold X_crashSubscriber X_clearQueue
  rw [Option.bind_some]
  obtain ⟨r, r1, r2, r3, r4⟩ := cp_e NF hNF (sI (sI ob 8 0) 9 0)
  have ri : ∀ j, gI r j = gI (sI (sI ob 8 0) 9 0) j := fun j => by unfold gI; rw [r2]
  rw [r1, Option.bind_some]
  have zi : ∀ j, ¬ j = 5 → ¬ j = 8 → ¬ j = 9 → gI (sI r 5 (gI r 7)) j = gI ob j := fun j a b c => by rw [gI_sI, if_neg a, ri, gI_sI, if_neg c, gI_sI, if_neg b]
  refine ⟨_, rfl, LI_c hI (fun j hj => zi j (by omega) (by omega) (by omega)) (fun j x hj => (r3 j x (by omega) (by omega))), SI_cr h zi (ri 7) (ri 8) (ri 9) (fun j x _ a b => r3 j x a b) r4, zi, fun j x hj => r3 j x (by omega) (by omega)⟩
theorem cpu_l (NF : Nat) (hNF : 200 < NF) : ∀ (m fuel : Nat) (ob : Rec) (i : Nat), m < fuel → i ≤ 8 → 8 - i ≤ m →
    ∃ r, X_crashPublisher_l2 NF fuel ob (n32 i) = some r ∧ (∀ j, ¬ j = 5 → ¬ j = 8 → ¬ j = 9 → gI r j = gI ob j) ∧ gI r 5 = gI ob 7 ∧ gI r 8 = 0 ∧ gI r 9 = 0 ∧ (∀ j x, ¬ j = 5 → ¬ j = 11 → ¬ j = 12 → gA r j x = gA ob j x) ∧ (∀ k, k < 32 → gA r 11 (n32 k) = 0) ∧ (∀ k, k < i → gA r 5 (n32 k) = gA ob 5 (n32 k)) ∧ (∀ k, i ≤ k → k < 8 → gA r 5 (n32 k) = 0) := by
  have fin : ∀ ob : Rec, ∃ r, ((X_clearQueue ob).bind fun q3 => (X_clearPending NF q3).bind fun q5 => some (sI q5 5 (gI q5 7))) = some r ∧ (∀ j, ¬ j = 5 → ¬ j = 8 → ¬ j = 9 → gI r j = gI ob j) ∧ gI r 5 = gI ob 7 ∧ gI r 8 = 0 ∧ gI r 9 = 0 ∧ (∀ j x, ¬ j = 11 → ¬ j = 12 → gA r j x = gA ob j x) ∧ (∀ k, k < 32 → gA r 11 (n32 k) = 0) := by
    intro ob
    unfold X_clearQueue
    rw [Option.bind_some]
    obtain ⟨r, r1, r2, r3, r4⟩ := cp_e NF hNF (sI (sI ob 8 0) 9 0)
    have ri : ∀ j, gI r j = gI (sI (sI ob 8 0) 9 0) j := fun j => by unfold gI; rw [r2]
    rw [r1, Option.bind_some]
    exact ⟨_, rfl, fun j a b c => by rw [gI_sI, if_neg a, ri, gI_sI, if_neg c, gI_sI, if_neg b], ri 7, ri 8, ri 9, fun j x a b => r3 j x a b, r4⟩
  intro m
  induction m with
  | zero =>
    intro fuel ob i hf h1 h2
    obtain ⟨f, rfl⟩ : ∃ f, fuel = f + 1 := ⟨fuel - 1, by omega⟩
    show ∃ r, X_crashPublisher_w2 NF _ ob (n32 i) = _ ∧ _
    unfold X_crashPublisher_w2; rw [if_neg (by rw [lt_i, nt i (by omega)]; show ¬ (i : Int) < 8; omega)]
    obtain ⟨r, r1, r2, r3, r4, r5, r6, r7⟩ := fin ob
    exact ⟨r, r1, r2, r3, r4, r5, fun j x _ a b => r6 j x a b, r7, fun k _ => r6 5 _ (by decide) (by decide), fun k a b => by omega⟩
  | succ m ih =>
    intro fuel ob i hf h1 h2
    obtain ⟨f, rfl⟩ : ∃ f, fuel = f + 1 := ⟨fuel - 1, by omega⟩
    show ∃ r, X_crashPublisher_w2 NF (X_crashPublisher_l2 NF f) ob (n32 i) = _ ∧ _
    unfold X_crashPublisher_w2
    by_cases c : i = 8
    · rw [if_neg (by rw [lt_i, nt i (by omega)]; show ¬ (i : Int) < 8; omega)]
      obtain ⟨r, r1, r2, r3, r4, r5, r6, r7⟩ := fin ob
      exact ⟨r, r1, r2, r3, r4, r5, fun j x _ a b => r6 j x a b, r7, fun k _ => r6 5 _ (by decide) (by decide), fun k a b => by omega⟩
    · rw [if_pos (by rw [lt_i, nt i (by omega)]; show (i : Int) < 8; omega), ck32 (m := 8) rfl (by omega) (by omega), n32_s (by omega)]
      obtain ⟨r, r1, r2, r3, r4, r5, r6, r7, r8, r9⟩ := ih f (sA ob 5 (n32 i) 0) (i + 1) (by omega) (by omega) (by omega)
      refine ⟨r, r1, r2, r3, r4, r5, fun j x a b d => by rw [r6 j x a b d, gA_sA, if_neg (fun e => a e.1)], r7, fun k hk => ?_, fun k a b => ?_⟩
      · have ne : ¬ n32 k = n32 i := n32_ne (by omega) (by omega) (by omega)
        rw [r8 k (by omega)]; simp [gA_sA, ne]
      · by_cases d : k = i
        · rw [d, r8 i (by omega)]; simp [gA_sA]
        · exact r9 k (by omega) b
theorem cpu_e (NF : Nat) (hNF : 200 < NF) {ob : Rec} {ns cap : Int32} {L E A C : Nat} {l : List Msg} {P : Pd} (hI : LI ob ns cap L) (h : SI ob L E A C l P) :
    ∃ r, X_crashPublisher NF ob = some r ∧ LI r ns cap L ∧ SI r L C A C [] (fun _ => none) ∧ (∀ j, ¬ j = 5 → ¬ j = 8 → ¬ j = 9 → gI r j = gI ob j) ∧ (∀ j x, ¬ j = 5 → j ≤ 10 → gA r j x = gA ob j x) ∧ (∀ t, In 8 t → gA r 5 t = 0) := by
  obtain ⟨r, r1, r2, r3, r4, r5, r6, r7, -, r9⟩ := cpu_l NF hNF 20 NF ob 0 (by omega) (by omega) (by omega)
  have z5 : ∀ t, In 8 t → gA r 5 t = 0 := fun t ht => by
    have := r9 t.toInt.toNat (by omega) (by clear h; omega)
    rw [n32_t t ht.1] at this; exact this
  refine ⟨r, r1, ?_, SI_cr h r2 r3 r4 r5 r6 r7, r2, fun j x a b => r6 j x a (by omega) (by omega), z5⟩
  have el : lgo r = lgo ob := lgo_c (fun j x hj => r6 j x (by omega) (by omega) (by omega))
  obtain ⟨b1, b2, b3, b4, b5, b6, b7⟩ := hI
  refine ⟨?_, (r2 4 (by decide) (by decide) (by decide)).trans b2, b3, by rw [el]; exact b4, by rw [el]; exact b5, fun s hs z => absurd (z5 s hs) z, fun k hk => ?_⟩
  · rw [r2 0 (by decide) (by decide) (by decide), r2 1 (by decide) (by decide) (by decide), r2 2 (by decide) (by decide) (by decide)]; exact b1
  · rw [el, tvc (r6 _ _ (by decide) (by decide) (by decide)) (r6 _ _ (by decide) (by decide) (by decide))]; exact b7 k hk
theorem fb_e {ob : Rec} {ns cap : Int32} {L E A C : Nat} {l : List Msg} {P : Pd} (hI : LI ob ns cap L) (h : SI ob L E A C l P) :
    ∃ r, X_feedback ob = some (n32 A, r) ∧ LI r ns cap L ∧ SI r L E A A l P ∧ (∀ j, ¬ j = 7 → gI r j = gI ob j) ∧ (∀ j x, gA r j x = gA ob j x) := by
  unfold X_feedback; rw [h.e6]
  have zi : ∀ j, ¬ j = 7 → gI (sI ob 7 (n32 A)) j = gI ob j := fun j a => by rw [gI_sI, if_neg a]
  refine ⟨_, rfl, LI_c hI (fun j hj => zi j (by omega)) (fun _ _ _ => rfl), ?_, zi, fun _ _ => rfl⟩
  obtain ⟨a1, a2, a3, a4, a5, a6, a7, a8, a9, a10, a11⟩ := h
  exact ⟨a1, a2, rfl, a4, a5, ⟨Nat.le_refl _, a5.2⟩, a7, a8, a9, a10, a11⟩
/- the getters -/
def rv : Option Int32 → Int64
  | none => 4294967296
  | some v => v.toInt64
theorem k8 {k : Nat} (hk : k < 8) : In 8 (n32 k) := ni (n := 8) hk (by decide)
theorem tv_n {ob : Rec} {a b k : Nat} : gA ob a (n32 k) = 0 ↔ tv ob a b k = none := by
  unfold tv
  by_cases c : gA ob a (n32 k) = 0
  · rw [if_pos c]; exact ⟨fun _ => rfl, fun _ => c⟩
  · rw [if_neg c]; exact ⟨fun x => absurd x c, fun x => by cases x⟩
/-- the last commit -/
abbrev LC (lg : Lg) (L c : Nat) : Prop := c ≤ L ∧ (c = 0 ∨ lg 0 c = 4) ∧ ∀ j, c < j → j ≤ L → ¬ lg 0 j = 4
theorem LC_u {lg : Lg} {L c d : Nat} (h : LC lg L c) (h' : LC lg L d) : c = d := by
  obtain ⟨h1, h2, h3⟩ := h
  obtain ⟨g1, g2, g3⟩ := h'
  by_cases x : c < d
  · rcases g2 with g2 | g2
    · omega
    · exact absurd g2 (h3 d x g1)
  · by_cases y : d < c
    · rcases h2 with h2 | h2
      · omega
      · exact absurd h2 (g3 c y h1)
    · omega
theorem QS_nil {lg : Lg} {E A : Nat} {P : Pd} (h : QS lg E A [] P) : (∀ j, A < j → j ≤ E → ¬ lg 0 j = 4) ∧ P = fun _ => none := by
  rcases h with ⟨e, e1, e2, e3, e4⟩ | ⟨c, p, k, c1, cE, bp, pc, el, hp⟩
  · refine ⟨fun j x y => ?_, e4⟩
    rcases em_first lg e (E - e) with ⟨-, b⟩ | ⟨c, x', y', z, w, v⟩
    · exact b j (by omega) (by omega)
    · rw [v] at e3
      have := congrArg List.length e3
      rw [List.length_append] at this
      have t := tx_pos lg c
      have this' : 0 = (tx lg c).length + (em lg c (e + (E - e) - c)).length := this
      omega
  · exact absurd el (by simp)
/-- streamed and applied to the end -/
theorem drain (NF : Nat) (hNF : 200 < NF) {ob : Rec} {ns cap : Int32} {L E A C c : Nat} {l : List Msg} {P : Pd} (hI : LI ob ns cap L) (hcap : cap.toInt ≤ 64) (h : SI ob L E A C l P) (hc : LC (lgo ob) L c) {n n' : Int32} (hn : 64 < n.toInt) (hn' : 128 ≤ n'.toInt) :
    ∃ x r y w, X_stream NF ob n = some (x, r) ∧ X_apply NF r n' = some (y, w) ∧ LI w ns cap L ∧ SI w L c c C [] (fun _ => none) ∧ (∀ j x, j ≤ 8 → gA w j x = gA ob j x) := by
  have lc := hI.lc
  obtain ⟨r, l', r1, r2, r3, r4, r5, r6⟩ := str_e NF hNF hI hcap h n
  have sb := sc_b (lgo ob) n.toInt E (L - E)
  have eL := h.hE
  generalize hs : sc (lgo ob) n.toInt E (L - E) = s at *
  have eqc : s.1 = c := by
    refine LC_u ⟨?_, ?_, fun j x y => ?_⟩ hc
    · have := sb.2.2.1; clear h r3 hI r2; omega
    · rcases sb.2.2.2.1 with z | z
      · rw [z]; exact eL.2
      · exact Or.inr z
    · refine sb.2.2.2.2 ?_ j x (by clear h r3 hI r2; omega)
      have := sb.1
      clear h r3 hI r2; omega
  rw [eqc] at r3
  obtain ⟨w, A', P', w1, w2, w3, w4, w5, w6⟩ := apl_e NF hNF r2 hcap r3 n'
  have ll : l'.length ≤ 128 := by obtain ⟨q, -, -, -, q4, -⟩ := r3.ql; exact q4
  have em : min n'.toInt.toNat l'.length = l'.length := by clear h r3 hI r2 w2 w3; omega
  rw [em, List.drop_length] at w3
  have qn := QS_nil w3.qs
  have ela : lgo w = lgo ob := lgo_c (fun j x hj => by rw [w6 j x (by omega), r6 j x (by omega)])
  have aeq : A' = c := by
    refine LC_u (lg := lgo ob) ⟨w3.hA.1, by rw [← ela]; exact w3.hA.2, fun j x y => ?_⟩ hc
    by_cases z : j ≤ c
    · have := qn.1 j x z; rw [ela] at this; exact this
    · exact hc.2.2 j (by omega) y
  rw [aeq, qn.2] at w3
  exact ⟨_, r, _, w, r1, w1, w2, w3, fun j x hj => by rw [w6 j x (by omega), r6 j x (by omega)]⟩
theorem lr_0 {ob : Rec} {L : Nat} (h4 : gI ob 4 = n32 L) (hL : L ≤ 64) : X_logRecord ob (n32 (L + 1)) = some 0 := by
  unfold X_logRecord; rw [h4, if_neg (by rw [lt_i, nt _ (by omega)]; show ¬ ((L + 1 : Nat) : Int) < 1; omega), if_pos (by rw [n32_lt (by omega) (by omega)]; omega)]
def rcd (k s y v : Int32) : Int64 := (v.toInt64 <<< ((32 : Int32) &&& 0x3f).toInt64) ||| ((k + ((256 : Int32) * s)) + ((65536 : Int32) * y)).toInt64
theorem lr_e {ob : Rec} {L p : Nat} (h4 : gI ob 4 = n32 L) (hL : L ≤ 64) (h1 : 1 ≤ p) (h2 : p ≤ L) : X_logRecord ob (n32 p) = some (rcd (lgo ob 0 p) (lgo ob 1 p) (lgo ob 2 p) (lgo ob 3 p)) := by
  have q : ∀ A : Option Int64, chk 129 (n32 p) A = A := fun A => ck32 (m := 129) rfl (by omega) (by omega)
  unfold X_logRecord; rw [h4, if_neg (by rw [lt_i, nt _ (by omega)]; show ¬ (p : Int) < 1; omega), if_neg (by rw [n32_lt (by omega) (by omega)]; omega), if_pos (by rw [lt_i, nt _ (by omega)]; show (p : Int) < 129; omega), q, q, q, q, lgj (by omega), lgj (by omega), lgj (by omega), lgj (by omega)]; rfl
theorem cop_l (NF : Nat) {ob : Rec} {n : Nat} (hn : n ≤ 8) (h0 : gI ob 1 = n32 n) : ∀ (m fuel i : Nat), m < fuel → i ≤ n → n - i ≤ m → X_countOpen_l4 NF ob fuel (n32 (cN (fun k => !decide (gA ob 5 (n32 k) = 0)) i)) (n32 i) = some (n32 (cN (fun k => !decide (gA ob 5 (n32 k) = 0)) n)) := by
  intro m
  induction m with
  | zero =>
    intro fuel i hf h1 h2
    obtain ⟨f, rfl⟩ : ∃ f, fuel = f + 1 := ⟨fuel - 1, by omega⟩
    show X_countOpen_w4 NF ob _ _ _ = _
    rw [show i = n by omega]
    unfold X_countOpen_w4; rw [h0, if_neg (by rw [lt_i]; omega)]
  | succ m ih =>
    intro fuel i hf h1 h2
    obtain ⟨f, rfl⟩ : ∃ f, fuel = f + 1 := ⟨fuel - 1, by omega⟩
    show X_countOpen_w4 NF ob (X_countOpen_l4 NF ob f) _ _ = _
    by_cases c : i = n
    · rw [c]; unfold X_countOpen_w4; rw [h0, if_neg (by rw [lt_i]; omega)]
    · have b := cN_b (fun k => !decide (gA ob 5 (n32 k) = 0)) i
      unfold X_countOpen_w4
      rw [h0, if_pos (by rw [n32_lt (by omega) (by omega)]; omega), if_pos (by rw [lt_i, nt i (by omega)]; show (i : Int) < 8; omega), ck32 (m := 8) rfl (by omega) (by omega), n32_s (by omega), n32_s (by omega)]
      have := ih f (i + 1) (by omega) (by omega) (by omega)
      have e : cN (fun k => !decide (gA ob 5 (n32 k) = 0)) (i + 1) = cN (fun k => !decide (gA ob 5 (n32 k) = 0)) i + (if (!decide (gA ob 5 (n32 i) = 0)) = true then 1 else 0) := rfl
      by_cases d : gA ob 5 (n32 i) = 0
      · rw [if_pos d]
        rw [e, decide_eq_true d, if_neg (by decide), Nat.add_zero] at this; exact this
      · rw [if_neg d]
        rw [e, decide_eq_false d, if_pos (by decide)] at this; exact this
theorem cop_e (NF : Nat) (hNF : 200 < NF) {ob : Rec} {n : Nat} (hn : n ≤ 8) (h0 : gI ob 1 = n32 n) : X_countOpen NF ob = some (n32 (cN (fun k => !decide (gA ob 5 (n32 k) = 0)) n)) := cop_l NF hn h0 20 NF 0 (by omega) (by omega) (by omega)
/- the writing calls, in short -/
abbrev W1 (ob : Rec) (ns cap : Int32) (L : Nat) (k s y v : Int32) (a : Int32) (r : Rec) : Prop := (r = ob ∧ a < 0) ∨ (a = n32 (L + 1) ∧ (L : Int) < cap.toInt ∧ LI r ns cap (L + 1) ∧ Ap ob r L k s y v)
theorem bgn_s {ob : Rec} {ns cap : Int32} {L : Nat} (h : LI ob ns cap L) (hns : ns.toInt ≤ 8) (hcap : cap.toInt ≤ 64) (s : Int32) : ∃ a r, X_begin ob s = some (a, r) ∧ W1 ob ns cap L 1 s 0 0 a r := by
  obtain ⟨r, r1, r2⟩ := bgn_e h hns hcap s
  refine ⟨_, r, r1, ?_⟩
  rcases r2 with ⟨c, e⟩ | ⟨c, l, p, -⟩
  · refine Or.inl ⟨e, ?_⟩
    by_cases c1 : In ns.toInt s
    · rw [if_pos c1]
      by_cases c2 : gA ob 5 s = 0
      · rw [if_pos c2, if_neg (fun x => c ⟨c1, c2, x⟩)]; decide
      · rw [if_neg c2]; decide
    · rw [if_neg c1]; decide
  · refine Or.inr ⟨?_, c.2.2, l, p⟩
    rw [if_pos c.1, if_pos c.2.1, if_pos c.2.2]
theorem wrt_s {ob : Rec} {ns cap k : Int32} {L : Nat} (h : LI ob ns cap L) (hns : ns.toInt ≤ 8) (hcap : cap.toInt ≤ 64) (hk : k = 2 ∨ k = 3) (s y v : Int32) : ∃ a r, X_write ob k s y v = some (a, r) ∧ W1 ob ns cap L k s y v a r := by
  obtain ⟨r, r1, r2⟩ := wrt_e h hns hcap hk s y v
  refine ⟨_, r, r1, ?_⟩
  rcases r2 with ⟨c, e⟩ | ⟨c, l, p, -⟩
  · refine Or.inl ⟨e, ?_⟩
    by_cases c1 : In ns.toInt s
    · rw [if_pos c1]
      by_cases c2 : gA ob 5 s = 0
      · rw [if_pos c2]; decide
      · rw [if_neg c2]
        by_cases c3 : In 8 y
        · rw [if_pos c3, if_neg (fun x => c ⟨c1, c2, c3, x⟩)]; decide
        · rw [if_neg c3]; decide
    · rw [if_neg c1]; decide
  · refine Or.inr ⟨?_, c.2.2.2, l, p⟩
    rw [if_pos c.1, if_neg c.2.1, if_pos c.2.2.1, if_pos c.2.2.2]
theorem put_s {ob : Rec} {ns cap : Int32} {L : Nat} (h : LI ob ns cap L) (hns : ns.toInt ≤ 8) (hcap : cap.toInt ≤ 64) (s y v : Int32) : ∃ a r, X_put ob s y v = some (a, r) ∧ W1 ob ns cap L 2 s y v a r := by
  obtain ⟨a, r, r1, r2⟩ := wrt_s h hns hcap (Or.inl rfl) s y v
  exact ⟨a, r, by unfold X_put; rw [r1, bind2_some], r2⟩
theorem del_s {ob : Rec} {ns cap : Int32} {L : Nat} (h : LI ob ns cap L) (hns : ns.toInt ≤ 8) (hcap : cap.toInt ≤ 64) (s y : Int32) : ∃ a r, X_del ob s y = some (a, r) ∧ W1 ob ns cap L 3 s y 0 a r := by
  obtain ⟨a, r, r1, r2⟩ := wrt_s h hns hcap (Or.inr rfl) s y 0
  exact ⟨a, r, by unfold X_del; rw [r1, bind2_some], r2⟩
theorem abo_s {ob : Rec} {ns cap : Int32} {L : Nat} (h : LI ob ns cap L) (hns : ns.toInt ≤ 8) (hcap : cap.toInt ≤ 64) (s : Int32) : ∃ a r, X_abort ob s = some (a, r) ∧ W1 ob ns cap L 5 s 0 0 a r := by
  obtain ⟨r, r1, r2⟩ := abo_e h hns hcap s
  refine ⟨_, r, r1, ?_⟩
  rcases r2 with ⟨c, e⟩ | ⟨c, l, p, -⟩
  · refine Or.inl ⟨e, ?_⟩
    by_cases c1 : In ns.toInt s
    · rw [if_pos c1]
      by_cases c2 : gA ob 5 s = 0
      · rw [if_pos c2]; decide
      · rw [if_neg c2, if_neg (fun x => c ⟨c1, c2, x⟩)]; decide
    · rw [if_neg c1]; decide
  · refine Or.inr ⟨?_, c.2.2, l, p⟩
    rw [if_pos c.1, if_neg c.2.1, if_pos c.2.2]
theorem com_s (NF : Nat) (hNF : 200 < NF) {ob : Rec} {ns cap : Int32} {L : Nat} (h : LI ob ns cap L) (hns : ns.toInt ≤ 8) (hcap : cap.toInt ≤ 64) (s : Int32) : ∃ a r, X_commit NF ob s = some (a, r) ∧ W1 ob ns cap L 4 s 0 0 a r := by
  obtain ⟨r, r1, r2⟩ := com_e NF hNF h hns hcap s
  refine ⟨_, r, r1, ?_⟩
  rcases r2 with ⟨c, e⟩ | ⟨c, l, p, -⟩
  · refine Or.inl ⟨e, ?_⟩
    by_cases c1 : In ns.toInt s
    · rw [if_pos c1]
      by_cases c2 : gA ob 5 s = 0
      · rw [if_pos c2]; decide
      · rw [if_neg c2, if_neg (fun x => c ⟨c1, c2, x⟩)]; decide
    · rw [if_neg c1]; decide
  · refine Or.inr ⟨?_, c.2.2, l, p⟩
    rw [if_pos c.1, if_neg c.2.1, if_pos c.2.2]
theorem ap_i {ob r : Rec} {L : Nat} {k s y v : Int32} (h : Ap ob r L k s y v) {E A C : Nat} {l : List Msg} {P : Pd} (hS : SI ob L E A C l P) : SI r (L + 1) E A C l P := SI_w hS h.ag (fun j a b => h.gi j (by omega)) (fun j x hj => h.ga j x hj)
theorem LC_n {ob r : Rec} {L c : Nat} {k s y v : Int32} (h : Ap ob r L k s y v) (hk : ¬ k = 4) (hc : LC (lgo ob) L c) : LC (lgo r) (L + 1) c := by
  obtain ⟨a, b, d⟩ := hc
  refine ⟨by omega, by rw [h.ag 0 c a]; exact b, fun j x z => ?_⟩
  by_cases e : j = L + 1
  · rw [e, h.nw.1]; exact hk
  · rw [h.ag 0 j (by omega)]; exact d j x (by omega)
theorem LC_c {ob r : Rec} {L : Nat} {s y v : Int32} (h : Ap ob r L 4 s y v) : LC (lgo r) (L + 1) (L + 1) := ⟨Nat.le_refl _, Or.inr h.nw.1, fun j x z => by omega⟩
/-- the new object -/
theorem ini_s (ns cap mc : Int32) (h1 : 2 ≤ ns.toInt ∧ ns.toInt ≤ 8) (h2 : 16 ≤ cap.toInt ∧ cap.toInt ≤ 64) (h3 : 2 ≤ mc.toInt ∧ mc.toInt ≤ 32) : ∃ r, X_init 8 ns cap mc = some r ∧ LI r ns cap 0 ∧ SI r 0 0 0 0 [] (fun _ => none) ∧ LC (lgo r) 0 0 ∧ (∀ j x, gA r j x = 0) := by
  have cl' : ∀ (ob : Rec) (x lo hi : Int32), lo.toInt ≤ x.toInt → x.toInt ≤ hi.toInt → X_clamp ob x lo hi = some x := fun ob x lo hi a b => by
    unfold X_clamp; rw [if_neg (by rw [lt_i]; omega), if_neg (by rw [lt_i]; omega)]
  unfold X_init
  rw [cl' _ 8 8 32 (by decide) (by decide), Option.bind_some, cl' _ ns 2 8 h1.1 h1.2, Option.bind_some, cl' _ cap 16 128 h2.1 (by show cap.toInt ≤ 128; omega), Option.bind_some, cl' _ mc 2 32 h3.1 h3.2, Option.bind_some]
  generalize hr : sI (sI (sI (sI (sI (sI (sI (sI (sI (sI zrec 0 8) 1 ns) 2 cap) 3 mc) 4 0) 5 0) 6 0) 7 0) 8 0) 9 0 = r
  have rA : ∀ j x, gA r j x = 0 := fun j x => by rw [← hr]; rfl
  have r0 : gI r 0 = 8 ∧ gI r 1 = ns ∧ gI r 2 = cap ∧ gI r 4 = 0 ∧ gI r 5 = 0 ∧ gI r 6 = 0 ∧ gI r 7 = 0 ∧ gI r 8 = 0 ∧ gI r 9 = 0 := by rw [← hr]; exact ⟨rfl, rfl, rfl, rfl, rfl, rfl, rfl, rfl, rfl⟩
  obtain ⟨g0, g1, g2, g4, g5, g6, g7, g8, g9⟩ := r0
  have tz : ∀ a b k, tv r a b k = none := fun a b k => by unfold tv; rw [rA, if_pos rfl]
  refine ⟨r, rfl, ⟨⟨g0, g1, g2⟩, g4, by omega, ⟨fun p x z => by omega, fun p x z => by omega⟩, fun p x z => by omega, fun s hs z => absurd (rA 5 s) z, fun k hk => tz 7 8 k⟩,
    ⟨g5, g6, g7, ⟨Nat.le_refl _, Or.inl rfl⟩, ⟨Nat.le_refl _, Or.inl rfl⟩, ⟨Nat.le_refl _, Or.inl rfl⟩, fun k hk => tz 9 10 k, ⟨0, by omega, g8, g9, by show 0 ≤ 128; omega, fun i hi => absurd hi (Nat.not_lt_zero i)⟩, Nat.zero_le _, fun k hk => pv_3 (by rw [rA]; decide) (by rw [rA]; decide), Or.inl ⟨0, Nat.le_refl _, Nat.le_refl _, rfl, rfl⟩⟩,
    ⟨Nat.le_refl _, Or.inl rfl, fun j x z => by omega⟩, rA⟩
theorem lgo_9 {ob r : Rec} (h : ∀ j x, j ≤ 4 → gA r j x = gA ob j x) {L c : Nat} (hc : LC (lgo ob) L c) : LC (lgo r) L c := by rw [lgo_c h]; exact hc
def bt (l : Int64) (a : Nat) : Bool := l.toBitVec.getLsbD a
theorem sh64 : ∀ n ∈ List.range 64, ((n32 n &&& 0x3f).toInt64.toUInt64.toBitVec % 64).toNat = n ∧ ((n32 n &&& 0x3f).toInt64.toBitVec.smod 64).toNat = n := by decide +kernel
theorem sh64' {a : Int32} (ha : In 64 a) : ((a &&& 0x3f).toInt64.toUInt64.toBitVec % 64).toNat = a.toInt.toNat ∧ ((a &&& 0x3f).toInt64.toBitVec.smod 64).toNat = a.toInt.toNat := by
  have := sh64 a.toInt.toNat (List.mem_range.mpr (by omega))
  rw [n32_t a ha.1] at this; exact this
theorem shr_e (l m : Int64) (s : UInt64) (k : Nat) (hs : (s.toBitVec % 64).toNat = k) : ((l.toUInt64 >>> s).toInt64 &&& m).toBitVec = (l.toBitVec >>> k) &&& m.toBitVec := by
  rw [Int64.toBitVec_and]
  congr 1
  show (l.toUInt64 >>> s).toBitVec = _
  rw [UInt64.toBitVec_shiftRight, BitVec.ushiftRight_eq', hs]; rfl
theorem bit1 (l : Int64) {a : Int32} (ha : In 64 a) : (((l.toUInt64 >>> (a &&& 0x3f).toInt64.toUInt64).toInt64) &&& (1 : Int64)) = if bt l a.toInt.toNat then 1 else 0 := by
  apply Int64.toBitVec_inj.mp
  rw [shr_e l 1 _ _ (sh64' ha).1]
  generalize a.toInt.toNat = k
  apply BitVec.eq_of_getLsbD_eq
  intro i hi
  have o : (1 : Int64).toBitVec = 1#64 := rfl
  rw [BitVec.getLsbD_and, BitVec.getLsbD_ushiftRight, o]
  by_cases c : i = 0
  · subst c
    cases h : bt l k <;> unfold bt at h <;> simp [h]
  · have c1 : (1#64).getLsbD i = false := by rw [BitVec.getLsbD_one]; simp [c]
    rw [c1, Bool.and_false]
    cases bt l k
    · simp
    · show false = (1#64).getLsbD i
      rw [c1]
theorem bit1n (l : Int64) {a : Int32} (ha : In 64 a) : ((((l.toUInt64 >>> (a &&& 0x3f).toInt64.toUInt64).toInt64) &&& (1 : Int64)) = 0) ↔ bt l a.toInt.toNat = false := by
  rw [bit1 l ha]
  cases bt l a.toInt.toNat <;> decide
theorem bitor (l : Int64) {a : Int32} (ha : In 64 a) (i : Nat) (hi : i < 64) : bt (l ||| ((1 : Int64) <<< (a &&& 0x3f).toInt64)) i = (bt l i || decide (i = a.toInt.toNat)) := by
  unfold bt
  have o : (1 : Int64).toBitVec = 1#64 := rfl
  rw [Int64.toBitVec_or, BitVec.getLsbD_or, Int64.toBitVec_shiftLeft, BitVec.shiftLeft_eq', (sh64' ha).2, BitVec.getLsbD_shiftLeft, o, BitVec.getLsbD_one]
  congr 1
  generalize a.toInt.toNat = k
  by_cases c : i = k
  · subst c; simp [hi]
  · by_cases d : i < k
    · simp [d, c]
    · have : ¬ i - k = 0 := by omega
      simp [this, c]
-- USE: bits pga0 rpa rpb rpc rpd rpe rpf rgl rgo rpg b64
abbrev L16 : List Int32 := [0, 1, 2, 3, 4, 5, 6, 7, 8, 9, 10, 11, 12, 13, 14, 15]
def ob1 (i s : Int32) : Bool := decide ((i >>> (s &&& 31)) &&& 1 = 1)
theorem o_or : ∀ i ∈ L16, ∀ s ∈ ([0, 1, 2, 3] : List Int32), (i ||| ((1 : Int32) <<< (s &&& 31))) ∈ L16 ∧ ∀ t ∈ ([0, 1, 2, 3] : List Int32), ob1 (i ||| ((1 : Int32) <<< (s &&& 31))) t = (decide (t = s) || ob1 i t) := by decide +kernel
theorem o_an : ∀ i ∈ L16, ∀ s ∈ ([0, 1, 2, 3] : List Int32), (i &&& (((1 : Int32) <<< (s &&& 31)) ^^^ (-1 : Int32))) ∈ L16 ∧ ∀ t ∈ ([0, 1, 2, 3] : List Int32), ob1 (i &&& (((1 : Int32) <<< (s &&& 31)) ^^^ (-1 : Int32))) t = (!decide (t = s) && ob1 i t) := by decide +kernel
theorem o_0 : ∀ t ∈ ([0, 1, 2, 3] : List Int32), ob1 0 t = false := by decide +kernel
theorem l4 {s : Int32} : In 4 s ↔ s ∈ ([0, 1, 2, 3] : List Int32) := by
  simp only [List.mem_cons, eq_i32, Int32.reduceToInt, List.not_mem_nil, or_false, In]
  omega
def cnt (ob : Rec) : Nat := cN (fun k => !decide (gA ob 5 (n32 k) = 0)) 4
theorem cnt_b (ob : Rec) : cnt ob ≤ 4 := cN_b _ 4
theorem cnt_1 {ob r : Rec} {s : Int32} (hs : In 4 s) (h : ∀ t, gA r 5 t = if t = s then 1 else gA ob 5 t) (h0 : gA ob 5 s = 0) : cnt r = cnt ob + 1 := by
  refine cN_set (j := s.toInt.toNat) ?_ ?_ 4 (by omega) (fun i hi hne => ?_)
  · rw [n32_t s hs.1, h0]; rfl
  · rw [n32_t s hs.1, h, if_pos rfl]; rfl
  · rw [h, if_neg]
    intro e
    apply hne
    rw [← e, nt i (by omega)]; rfl
theorem cnt_0 {ob r : Rec} {s : Int32} (hs : In 4 s) (h : ∀ t, gA r 5 t = if t = s then 0 else gA ob 5 t) (h0 : ¬ gA ob 5 s = 0) : cnt ob = cnt r + 1 := by
  refine cN_set (j := s.toInt.toNat) ?_ ?_ 4 (by omega) (fun i hi hne => ?_)
  · rw [n32_t s hs.1, h, if_pos rfl]; rfl
  · rw [n32_t s hs.1, decide_eq_false h0]; rfl
  · rw [h, if_neg]
    intro e
    apply hne
    rw [← e, nt i (by omega)]; rfl
abbrev X8 (ob : Rec) (L E A C : Nat) (l : List Msg) (P : Pd) (i3 : Int32) (l8 : Int64) : Prop := (LI ob 4 64 L) ∧ (SI ob L E A C l P) ∧ (i3 ∈ L16) ∧ (∀ s, In 4 s → ob1 i3 s = !decide (gA ob 5 s = 0)) ∧ (∀ p, 1 ≤ p → p ≤ 64 → bt l8 (p - 1) = (decide (p ≤ L) && decide (lgo ob 0 p = 4)))
theorem X8.hI {ob : Rec} {L E A C : Nat} {l : List Msg} {P : Pd} {i3 : Int32} {l8 : Int64} (h : X8 ob L E A C l P i3 l8) : LI ob 4 64 L := h.1
theorem X8.hS {ob : Rec} {L E A C : Nat} {l : List Msg} {P : Pd} {i3 : Int32} {l8 : Int64} (h : X8 ob L E A C l P i3 l8) : SI ob L E A C l P := h.2.1
theorem X8.m3 {ob : Rec} {L E A C : Nat} {l : List Msg} {P : Pd} {i3 : Int32} {l8 : Int64} (h : X8 ob L E A C l P i3 l8) : i3 ∈ L16 := h.2.2.1
theorem X8.op {ob : Rec} {L E A C : Nat} {l : List Msg} {P : Pd} {i3 : Int32} {l8 : Int64} (h : X8 ob L E A C l P i3 l8) : ∀ s, In 4 s → ob1 i3 s = !decide (gA ob 5 s = 0) := h.2.2.2.1
theorem X8.cm {ob : Rec} {L E A C : Nat} {l : List Msg} {P : Pd} {i3 : Int32} {l8 : Int64} (h : X8 ob L E A C l P i3 l8) : ∀ p, 1 ≤ p → p ≤ 64 → bt l8 (p - 1) = (decide (p ≤ L) && decide (lgo ob 0 p = 4)) := h.2.2.2.2
abbrev K8 : Type := Rec → Int32 → Int32 → Int32 → Int32 → Int32 → Int32 → Int64 → Int32 → Option Int32
abbrev NX (k : K8) (i10 : Int32) : Prop := ∀ ob L E A C l P i3 l8, X8 ob L E A C l P i3 l8 → k ob (n32 L) i3 (n32 (cnt ob)) (n32 E) (n32 A) (n32 C) l8 (i10 + 4) = some 1
theorem b769_e (NF : Nat) (hNF : 200 < NF) (z : Int32) (f : Int32 → Int32) {k : K8} {i10 : Int32} (nx : NX k i10) {ob : Rec} {L E A C : Nat} {l : List Msg} {P : Pd} {i3 : Int32} {l8 : Int64} (h : X8 ob L E A C l P i3 l8) {n : Nat} (hn : n = cnt ob) : L_law_b769 NF z f k ob (n32 L) i3 (n32 n) (n32 E) (n32 A) (n32 C) l8 i10 = some 1 := by
  have lc : (L : Int) ≤ 64 := h.hI.lc
  have i0 : X_info NF ob 0 = some (gI ob 4) := rfl
  have i1 : X_info NF ob 1 = (X_countOpen NF ob).bind (fun r13 => some r13) := rfl
  have i2 : X_info NF ob 2 = some (gI ob 5) := rfl
  have i4 : X_info NF ob 4 = some (gI ob 6) := rfl
  have i5 : X_info NF ob 5 = some (gI ob 7) := rfl
  unfold L_law_b769
  rw [i0, Option.bind_some, h.hI.e4, if_pos rfl, i1, cop_e NF hNF (n := 4) (by omega) h.hI.cf.2.1, Option.bind_some, Option.bind_some, if_pos (show n32 (cN (fun k => !decide (gA ob 5 (n32 k) = 0)) 4) = n32 n by rw [hn]; rfl), i2, Option.bind_some, h.hS.e5, if_pos rfl, i4, Option.bind_some, h.hS.e6, if_pos rfl, i5, Option.bind_some, h.hS.e7, if_pos rfl, n32_s (by clear h; omega), lr_0 h.hI.e4 (by clear h; omega), Option.bind_some, if_pos rfl, hn]
  exact nx ob L E A C l P i3 l8 h
/-- the answer that the law waits for -/
theorem want_e {L : Nat} (hL : L ≤ 64) {i1 i2 i3 : Int32} {a b c : Prop} [Decidable a] [Decidable b] [Decidable c] (h1 : i1 = 0 ↔ ¬ a) (h2 : i2 = 0 ↔ ¬ b) (h3 : i3 = 0 ↔ ¬ c) : L_want (n32 L) i1 i2 i3 = some (if a then (if b then -2 else if c then -3 else if (L : Int) < (64 : Int32).toInt then n32 (L + 1) else -4) else -1) := by
  unfold L_want
  by_cases ha : a
  · rw [if_neg (fun e => h1.mp e ha), if_pos ha]
    by_cases hb : b
    · rw [if_neg (fun e => h2.mp e hb), if_pos hb]
    · rw [if_pos (h2.mpr hb), if_neg hb]
      by_cases hc : c
      · rw [if_neg (fun e => h3.mp e hc), if_pos hc]
      · rw [if_pos (h3.mpr hc), if_neg hc]
        by_cases d : L = 64
        · rw [if_pos (by rw [d]; rfl), if_neg (by rw [d]; decide)]
        · rw [if_neg (show ¬ n32 L = 64 from n32_ne (j := 64) (by omega) (by omega) d), if_pos (show (L : Int) < (64 : Int32).toInt by show (L : Int) < 64; omega), n32_s (by omega)]
  · rw [if_pos (h1.mpr ha), if_neg ha]
theorem rec_e (k s y v : Int32) : L_rec k s y v = some (rcd k s y v) := rfl
/-- a record more -/
theorem X8_ap {ob r : Rec} {L E A C : Nat} {l : List Msg} {P : Pd} {i3 j3 : Int32} {l8 m8 : Int64} {k s y v : Int32} (h : X8 ob L E A C l P i3 l8) (hL : L < 64) (hI : LI r 4 64 (L + 1)) (ap : Ap ob r L k s y v) (m3 : j3 ∈ L16) (op : ∀ s, In 4 s → ob1 j3 s = !decide (gA r 5 s = 0)) (hm : ∀ p, 1 ≤ p → p ≤ 64 → bt m8 (p - 1) = (bt l8 (p - 1) || (decide (p = L + 1) && decide (k = 4)))) : X8 r (L + 1) E A C l P j3 m8 := by
  refine ⟨hI, ap_i ap h.hS, m3, op, fun p a b => ?_⟩
  rw [hm p a b, h.cm p a b]
  by_cases c : p ≤ L
  · rw [ap.ag 0 p c, decide_eq_true c, decide_eq_true (show p ≤ L + 1 by clear h hI; omega), decide_eq_false (show ¬ p = L + 1 by clear h hI; omega)]; simp
  · by_cases d : p = L + 1
    · rw [d, ap.nw.1, decide_eq_false (show ¬ L + 1 ≤ L by clear h hI; omega), decide_eq_true (show L + 1 ≤ L + 1 by clear h hI; omega), decide_eq_true rfl]; simp
    · rw [decide_eq_false c, decide_eq_false (show ¬ p ≤ L + 1 by clear h hI; omega), decide_eq_false d]; simp
theorem pos_n {L : Nat} (hL : L < 64) : 0 < n32 (L + 1) := by rw [lt_i, nt _ (by omega)]; show (0 : Int) < ((L + 1 : Nat) : Int); omega
theorem n32_m1 {n : Nat} (h : n < 1000) : n32 (n + 1) + (-1) = n32 n := by
  rw [eq_i32, ad (by rw [nt (n + 1) (by omega)]; show -2147483648 ≤ ((n + 1 : Nat) : Int) + (-1) ∧ ((n + 1 : Nat) : Int) + (-1) < 2147483648; omega), nt (n + 1) (by omega), nt n (by omega)]
  show ((n + 1 : Nat) : Int) + (-1) = n
  omega
theorem lr_n {r ob : Rec} {L : Nat} {k s y v : Int32} (hL : L < 64) (hI : LI r 4 64 (L + 1)) (ap : Ap ob r L k s y v) : X_logRecord r (n32 (L + 1)) = some (rcd k s y v) := by
  rw [lr_e hI.e4 (by clear hI; omega) (by clear hI; omega) (Nat.le_refl _), ap.nw.1, ap.nw.2.1, ap.nw.2.2.1, ap.nw.2.2.2]
/-- begin -/
theorem t_bgn (NF : Nat) (hNF : 200 < NF) (z : Int32) (f : Int32 → Int32) {k : K8} {i10 : Int32} (nx : NX k i10) {ob : Rec} {L E A C : Nat} {l : List Msg} {P : Pd} {i3 : Int32} {l8 : Int64} (h : X8 ob L E A C l P i3 l8) {s i16 t0 : Int32} (h16 : i16 = 0 ↔ ¬ In 4 s) (ht : In 4 s → (t0 = 0 ↔ gA ob 5 s = 0)) (hu : ¬ In 4 s → t0 = 0) :
    ((L_want (n32 L) i16 t0 (0 : Int32)).bind fun r38 =>
    bind2 (X_begin ob s) fun r40 q41 =>
    if r40 = r38 then
      if (0 : Int32) < r38 then
        (X_logRecord q41 r38).bind fun r45 =>
        (L_rec (1 : Int32) s (0 : Int32) (0 : Int32)).bind fun r47 =>
        if r45 = r47 then
          L_law_b769 NF z f k q41 r38 (i3 ||| ((1 : Int32) <<< (s &&& 31))) (n32 (cnt ob) + (1 : Int32)) (n32 E) (n32 A) (n32 C) l8 i10
        else
          some (0 : Int32)
      else
        L_law_b769 NF z f k q41 (n32 L) i3 (n32 (cnt ob)) (n32 E) (n32 A) (n32 C) l8 i10
    else
      some (0 : Int32)) = some 1 := by
  have lc : (L : Int) ≤ 64 := h.hI.lc
  rw [want_e (a := In 4 s) (b := In 4 s ∧ ¬ gA ob 5 s = 0) (c := False) (by clear h; omega) h16 (by
    by_cases c : In 4 s
    · rw [ht c]; exact ⟨fun x y => y.2 x, fun x => Classical.byContradiction (fun y => x ⟨c, y⟩)⟩
    · exact ⟨fun _ x => c x.1, fun _ => hu c⟩) ⟨fun _ x => x, fun _ => rfl⟩, Option.bind_some]
  obtain ⟨r, r1, r2⟩ := bgn_e h.hI (by decide) (by decide) s
  have ans : (if In (4 : Int32).toInt s then (if gA ob 5 s = 0 then (if (L : Int) < (64 : Int32).toInt then n32 (L + 1) else -4) else -2) else -1 : Int32) = (if In 4 s then (if In 4 s ∧ ¬ gA ob 5 s = 0 then -2 else if False then -3 else if (L : Int) < (64 : Int32).toInt then n32 (L + 1) else -4) else -1 : Int32) := by
    by_cases c : In 4 s
    · rw [if_pos c, if_pos (show In (4 : Int32).toInt s from c)]
      by_cases d : gA ob 5 s = 0
      · rw [if_pos d, if_neg (show ¬ (In 4 s ∧ ¬ gA ob 5 s = 0) from fun x => x.2 d), if_neg (show ¬ False from fun x => x)]
      · rw [if_neg d, if_pos ⟨c, d⟩]
    · rw [if_neg c, if_neg (show ¬ In (4 : Int32).toInt s from c)]
  rw [r1, bind2_some, if_pos ans, ← ans]
  rcases r2 with ⟨c, e⟩ | ⟨c, hI', ap, r5⟩
  · rw [e]
    have ng : ¬ 0 < (if In (4 : Int32).toInt s then (if gA ob 5 s = 0 then (if (L : Int) < (64 : Int32).toInt then n32 (L + 1) else -4) else -2) else -1 : Int32) := by
      by_cases c1 : In (4 : Int32).toInt s
      · rw [if_pos c1]
        by_cases c2 : gA ob 5 s = 0
        · rw [if_pos c2, if_neg (show ¬ (L : Int) < (64 : Int32).toInt from fun x => c ⟨c1, c2, x⟩)]; decide
        · rw [if_neg c2]; decide
      · rw [if_neg c1]; decide
    rw [if_neg ng]
    exact b769_e NF hNF z f nx h rfl
  · have c1 : In 4 s := c.1
    have c3 : (L : Int) < 64 := c.2.2
    rw [if_pos c.1, if_pos c.2.1, if_pos c.2.2, if_pos (pos_n (by clear h hI'; omega)), lr_n (by clear h hI'; omega) hI' ap, Option.bind_some, rec_e, Option.bind_some, if_pos rfl, n32_s (by have := cnt_b ob; clear h hI'; omega)]
    have oo := o_or i3 h.m3 s (l4.mp c1)
    refine b769_e NF hNF z f nx (X8_ap h (by clear h hI'; omega) hI' ap oo.1 (fun t ht => ?_) (fun p _ _ => by simp)) (cnt_1 c1 r5 c.2.1).symm
    rw [oo.2 t (l4.mp ht), h.op t ht, r5]
    by_cases d : t = s
    · rw [if_pos d, decide_eq_true d]; rfl
    · rw [if_neg d, decide_eq_false d]; rfl
/-- put and del -/
theorem t_wrt (NF : Nat) (hNF : 200 < NF) (z : Int32) (f : Int32 → Int32) {k : K8} {i10 : Int32} (nx : NX k i10) {ob : Rec} {L E A C : Nat} {l : List Msg} {P : Pd} {i3 : Int32} {l8 : Int64} (h : X8 ob L E A C l P i3 l8) {s y v i16 t0 t2 t3 i18 : Int32} (hy : In 9 y) (h16 : i16 = 0 ↔ ¬ In 4 s) (ht : In 4 s → (t2 = 0 ↔ ¬ gA ob 5 s = 0)) (h3 : t3 = 0 ↔ ¬ 7 < y) :
    L_law_b255 NF z f k ob (n32 L) i3 (n32 (cnt ob)) (n32 E) (n32 A) (n32 C) l8 i10 s y v i18 (n32 L) i16 t2 t3 = some 1 := by
  have lc : (L : Int) ≤ 64 := h.hI.lc
  unfold L_law_b255
  have hy7 : 7 < y ↔ ¬ In 8 y := by
    rw [lt_i]; show (7 : Int) < y.toInt ↔ _; unfold In; clear h; omega
  have w := want_e (L := L) (a := In 4 s) (b := ¬ t2 = 0) (c := 7 < y) (i2 := t2) (by clear h; omega) h16 ⟨fun x y => y x, fun x => Classical.byContradiction x⟩ h3
  rw [w, Option.bind_some]
  have gen : ∀ {kk : Int32} {vv : Int32} {r : Rec}, (kk = 2 ∨ kk = 3) →
      ((¬ (In (4 : Int32).toInt s ∧ ¬ gA ob 5 s = 0 ∧ In 8 y ∧ (L : Int) < (64 : Int32).toInt) ∧ r = ob) ∨ ((In (4 : Int32).toInt s ∧ ¬ gA ob 5 s = 0 ∧ In 8 y ∧ (L : Int) < (64 : Int32).toInt) ∧ LI r 4 64 (L + 1) ∧ Ap ob r L kk s y vv ∧ (∀ t, gA r 5 t = gA ob 5 t))) →
      (i18 = 0 ∧ kk = 2 ∧ vv = v ∨ ¬ i18 = 0 ∧ kk = 3 ∧ vv = 0) →
      L_law_b286 NF z f k r (n32 L) i3 (n32 (cnt ob)) (n32 E) (n32 A) (n32 C) l8 i10 s y v i18 (if In 4 s then (if ¬ t2 = 0 then -2 else if 7 < y then -3 else if (L : Int) < (64 : Int32).toInt then n32 (L + 1) else -4) else -1) (if In (4 : Int32).toInt s then (if gA ob 5 s = 0 then -2 else if In 8 y then (if (L : Int) < (64 : Int32).toInt then n32 (L + 1) else -4) else -3) else -1) = some 1 := by
    intro kk vv r hk hr hv
    have ans : (if In (4 : Int32).toInt s then (if gA ob 5 s = 0 then -2 else if In 8 y then (if (L : Int) < (64 : Int32).toInt then n32 (L + 1) else -4) else -3) else -1 : Int32) = (if In 4 s then (if ¬ t2 = 0 then -2 else if 7 < y then -3 else if (L : Int) < (64 : Int32).toInt then n32 (L + 1) else -4) else -1 : Int32) := by
      by_cases c : In 4 s
      · rw [if_pos c, if_pos (show In (4 : Int32).toInt s from c)]
        by_cases d : gA ob 5 s = 0
        · rw [if_pos d, if_pos (show ¬ t2 = 0 from fun x => (ht c).mp x d)]
        · rw [if_neg d, if_neg (show ¬ ¬ t2 = 0 from fun x => x ((ht c).mpr d))]
          by_cases e : In 8 y
          · rw [if_pos e, if_neg (show ¬ 7 < y from fun x => hy7.mp x e)]
          · rw [if_neg e, if_pos (hy7.mpr e)]
      · rw [if_neg c, if_neg (show ¬ In (4 : Int32).toInt s from c)]
    unfold L_law_b286
    rw [if_pos ans, ← ans]
    rcases hr with ⟨c, e⟩ | ⟨c, hI', ap, r5⟩
    · rw [e]
      have ng : ¬ 0 < (if In (4 : Int32).toInt s then (if gA ob 5 s = 0 then -2 else if In 8 y then (if (L : Int) < (64 : Int32).toInt then n32 (L + 1) else -4) else -3) else -1 : Int32) := by
        by_cases c1 : In (4 : Int32).toInt s
        · rw [if_pos c1]
          by_cases c2 : gA ob 5 s = 0
          · rw [if_pos c2]; decide
          · rw [if_neg c2]
            by_cases c3 : In 8 y
            · rw [if_pos c3, if_neg (show ¬ (L : Int) < (64 : Int32).toInt from fun x => c ⟨c1, c2, c3, x⟩)]; decide
            · rw [if_neg c3]; decide
        · rw [if_neg c1]; decide
      rw [if_neg ng]
      exact b769_e NF hNF z f nx h rfl
    · have c1 : In 4 s := c.1
      have c3 : (L : Int) < 64 := c.2.2.2
      have x8 : X8 r (L + 1) E A C l P i3 l8 := X8_ap h (by clear h hI'; omega) hI' ap h.m3 (fun t ht => by rw [r5]; exact h.op t ht) (fun p _ _ => by rw [decide_eq_false (show ¬ kk = 4 by rcases hk with e | e <;> rw [e] <;> decide)]; simp)
      have cn : cnt ob = cnt r := cN_eq 4 (fun i _ => by rw [r5])
      have ex : L_law_b332 NF z f k r (n32 (L + 1)) i3 (n32 (cnt ob)) (n32 E) (n32 A) (n32 C) l8 i10 (rcd kk s y vv) = some 1 := by
        unfold L_law_b332
        rw [lr_n (by clear h hI' x8; omega) hI' ap, Option.bind_some, if_pos rfl]
        exact b769_e NF hNF z f nx x8 cn
      rw [if_pos c.1, if_neg c.2.1, if_pos c.2.2.1, if_pos c.2.2.2, if_pos (pos_n (by clear h hI' x8; omega))]
      rcases hv with ⟨v1, v2, v3⟩ | ⟨v1, v2, v3⟩
      · rw [if_pos v1, rec_e, Option.bind_some]
        rw [v2, v3] at ex; exact ex
      · rw [if_neg v1, rec_e, Option.bind_some]
        rw [v2, v3] at ex; exact ex
  by_cases c : i18 = 0
  · obtain ⟨r, r1, r2⟩ := wrt_e h.hI (by decide) (by decide) (Or.inl rfl) s y v
    have e : X_put ob s y v = X_write ob 2 s y v := by unfold X_put; rw [r1, bind2_some]
    rw [if_pos c, e, r1, bind2_some]
    exact gen (Or.inl rfl) r2 (Or.inl ⟨c, rfl, rfl⟩)
  · obtain ⟨r, r1, r2⟩ := wrt_e h.hI (by decide) (by decide) (Or.inr rfl) s y 0
    have e : X_del ob s y = X_write ob 3 s y 0 := by unfold X_del; rw [r1, bind2_some]
    rw [if_neg c, e, r1, bind2_some]
    exact gen (Or.inr rfl) r2 (Or.inr ⟨c, rfl, rfl⟩)
/-- commit and abort -/
theorem t_com (NF : Nat) (hNF : 200 < NF) (z : Int32) (f : Int32 → Int32) {k : K8} {i10 : Int32} (nx : NX k i10) {ob : Rec} {L E A C : Nat} {l : List Msg} {P : Pd} {i3 : Int32} {l8 : Int64} (h : X8 ob L E A C l P i3 l8) {s i16 t2 i18 : Int32} (h16 : i16 = 0 ↔ ¬ In 4 s) (ht : In 4 s → (t2 = 0 ↔ ¬ gA ob 5 s = 0)) :
    L_law_b384 NF z f k ob (n32 L) i3 (n32 (cnt ob)) (n32 E) (n32 A) (n32 C) l8 i10 s i18 (n32 L) i16 t2 = some 1 := by
  have lc : (L : Int) ≤ 64 := h.hI.lc
  unfold L_law_b384
  have w := want_e (L := L) (a := In 4 s) (b := ¬ t2 = 0) (c := False) (i2 := t2) (i3 := 0) (by clear h; omega) h16 ⟨fun x y => y x, fun x => Classical.byContradiction x⟩ ⟨fun _ x => x, fun _ => rfl⟩
  rw [w, Option.bind_some]
  have gen : ∀ {kk : Int32} {r : Rec},
      ((¬ (In (4 : Int32).toInt s ∧ ¬ gA ob 5 s = 0 ∧ (L : Int) < (64 : Int32).toInt) ∧ r = ob) ∨ ((In (4 : Int32).toInt s ∧ ¬ gA ob 5 s = 0 ∧ (L : Int) < (64 : Int32).toInt) ∧ LI r 4 64 (L + 1) ∧ Ap ob r L kk s 0 0 ∧ (∀ t, gA r 5 t = if t = s then 0 else gA ob 5 t))) →
      (i18 = 0 ∧ kk = 4 ∨ ¬ i18 = 0 ∧ kk = 5) →
      L_law_b410 NF z f k r (n32 L) i3 (n32 (cnt ob)) (n32 E) (n32 A) (n32 C) l8 i10 s i18 (if In 4 s then (if ¬ t2 = 0 then -2 else if False then -3 else if (L : Int) < (64 : Int32).toInt then n32 (L + 1) else -4) else -1) (if In (4 : Int32).toInt s then (if gA ob 5 s = 0 then -2 else if (L : Int) < (64 : Int32).toInt then n32 (L + 1) else -4) else -1) = some 1 := by
    intro kk r hr hv
    have ans : (if In (4 : Int32).toInt s then (if gA ob 5 s = 0 then -2 else if (L : Int) < (64 : Int32).toInt then n32 (L + 1) else -4) else -1 : Int32) = (if In 4 s then (if ¬ t2 = 0 then -2 else if False then -3 else if (L : Int) < (64 : Int32).toInt then n32 (L + 1) else -4) else -1 : Int32) := by
      by_cases c : In 4 s
      · rw [if_pos c, if_pos (show In (4 : Int32).toInt s from c)]
        by_cases d : gA ob 5 s = 0
        · rw [if_pos d, if_pos (show ¬ t2 = 0 from fun x => (ht c).mp x d)]
        · rw [if_neg d, if_neg (show ¬ ¬ t2 = 0 from fun x => x ((ht c).mpr d)), if_neg (show ¬ False from fun x => x)]
      · rw [if_neg c, if_neg (show ¬ In (4 : Int32).toInt s from c)]
    unfold L_law_b410
    rw [if_pos ans, ← ans]
    rcases hr with ⟨c, e⟩ | ⟨c, hI', ap, r5⟩
    · rw [e]
      have ng : ¬ 0 < (if In (4 : Int32).toInt s then (if gA ob 5 s = 0 then -2 else if (L : Int) < (64 : Int32).toInt then n32 (L + 1) else -4) else -1 : Int32) := by
        by_cases c1 : In (4 : Int32).toInt s
        · rw [if_pos c1]
          by_cases c2 : gA ob 5 s = 0
          · rw [if_pos c2]; decide
          · rw [if_neg c2, if_neg (show ¬ (L : Int) < (64 : Int32).toInt from fun x => c ⟨c1, c2, x⟩)]; decide
        · rw [if_neg c1]; decide
      rw [if_neg ng]
      exact b769_e NF hNF z f nx h rfl
    · have c1 : In 4 s := c.1
      have c3 : (L : Int) < 64 := c.2.2
      have oo := o_an i3 h.m3 s (l4.mp c1)
      have cn := cnt_0 c1 r5 c.2.1
      have cb := cnt_b ob
      have op' : ∀ t, In 4 t → ob1 (i3 &&& (((1 : Int32) <<< (s &&& 31)) ^^^ (-1 : Int32))) t = !decide (gA r 5 t = 0) := fun t ht => by
        rw [oo.2 t (l4.mp ht), h.op t ht, r5]
        by_cases d : t = s
        · rw [if_pos d, decide_eq_true d]; rfl
        · rw [if_neg d, decide_eq_false d]; rfl
      have fin : ∀ m8, X8 r (L + 1) E A C l P (i3 &&& (((1 : Int32) <<< (s &&& 31)) ^^^ (-1 : Int32))) m8 → L_law_b466 NF z f k r (n32 (L + 1)) (i3 &&& (((1 : Int32) <<< (s &&& 31)) ^^^ (-1 : Int32))) (n32 (cnt ob) + (-1)) (n32 E) (n32 A) (n32 C) m8 i10 s kk = some 1 := by
        intro m8 x8
        unfold L_law_b466
        rw [lr_n (by clear h hI' x8; omega) hI' ap, Option.bind_some, rec_e, Option.bind_some, if_pos rfl, cn, n32_m1 (by clear h hI' x8; omega)]
        exact b769_e NF hNF z f nx x8 rfl
      rw [if_pos c.1, if_neg c.2.1, if_pos c.2.2, if_pos (pos_n (by clear h hI'; omega))]
      rcases hv with ⟨v1, v2⟩ | ⟨v1, v2⟩
      · rw [if_pos v1]
        unfold L_law_b456
        rw [if_pos v1]
        rw [v2] at fin ap
        refine fin _ (X8_ap h (by clear h hI'; omega) hI' ap oo.1 op' (fun p a b => ?_))
        have eL : n32 (L + 1) - 1 = n32 L := n32_p (by clear h hI'; omega)
        have i64 : In 64 (n32 L) := ni (n := 64) (by clear h hI'; omega) (by decide)
        rw [eL, bitor l8 i64 (p - 1) (by clear h hI'; omega), nt L (by clear h hI'; omega)]
        congr 1
        by_cases d : p = L + 1
        · rw [decide_eq_true d, decide_eq_true rfl, decide_eq_true (show p - 1 = (L : Int).toNat by clear h hI'; omega)]; rfl
        · rw [decide_eq_false d, decide_eq_false (show ¬ p - 1 = (L : Int).toNat by clear h hI'; omega)]; rfl
      · rw [if_neg v1]
        unfold L_law_b456
        rw [if_neg v1]
        rw [v2] at fin ap
        exact fin _ (X8_ap h (by clear h hI'; omega) hI' ap oo.1 op' (fun p a b => by rw [decide_eq_false (show ¬ (5 : Int32) = 4 by decide)]; simp))
  by_cases c : i18 = 0
  · obtain ⟨r, r1, r2⟩ := com_e NF hNF h.hI (by decide) (by decide) s
    rw [if_pos c, r1, bind2_some]
    exact gen r2 (Or.inl ⟨c, rfl⟩)
  · obtain ⟨r, r1, r2⟩ := abo_e h.hI (by decide) (by decide) s
    rw [if_neg c, r1, bind2_some]
    exact gen r2 (Or.inr ⟨c, rfl⟩)
/-- the subscriber's side moves -/
theorem X8_s {ob r : Rec} {L E A C E' A' C' : Nat} {l l' : List Msg} {P P' : Pd} {i3 : Int32} {l8 : Int64} (h : X8 ob L E A C l P i3 l8) (hI : LI r 4 64 L) (hS : SI r L E' A' C' l' P') (ha : ∀ j x, j ≤ 5 → gA r j x = gA ob j x) : X8 r L E' A' C' l' P' i3 l8 ∧ cnt ob = cnt r := by
  have el : lgo r = lgo ob := lgo_c (fun j x hj => ha j x (by omega))
  exact ⟨⟨hI, hS, h.m3, fun s hs => by rw [ha 5 s (by decide)]; exact h.op s hs, fun p a b => by rw [el]; exact h.cm p a b⟩, cN_eq 4 (fun i _ => by rw [ha 5 _ (by decide)])⟩
theorem bitc {ob : Rec} {L E A C : Nat} {l : List Msg} {P : Pd} {i3 : Int32} {l8 : Int64} (h : X8 ob L E A C l P i3 l8) {p : Nat} (h1 : 1 ≤ p) (h2 : p ≤ L) : (((l8.toUInt64 >>> ((n32 p - (1 : Int32)) &&& 0x3f).toInt64.toUInt64).toInt64) &&& (1 : Int64)) = 1 ↔ lgo ob 0 p = 4 := by
  have lc : (L : Int) ≤ 64 := h.hI.lc
  have cm := h.cm p h1 (by clear h; omega)
  clear h
  obtain ⟨q, rfl⟩ : ∃ q, p = q + 1 := ⟨p - 1, by omega⟩
  rw [n32_p (by omega), bit1 l8 (ni (n := 64) (show q < 64 by omega) (by decide)), nt q (by omega), show (q : Int).toNat = q + 1 - 1 by omega, cm, decide_eq_true h2, Bool.true_and]
  by_cases c : lgo ob 0 (q + 1) = 4
  · rw [decide_eq_true c]; exact ⟨fun _ => c, fun _ => rfl⟩
  · rw [decide_eq_false c]; exact ⟨fun x => absurd x (by decide), fun x => absurd x c⟩
theorem t_str (NF : Nat) (hNF : 200 < NF) (z : Int32) (f : Int32 → Int32) {k : K8} {i10 : Int32} (nx : NX k i10) {ob : Rec} {L E A C : Nat} {l : List Msg} {P : Pd} {i3 : Int32} {l8 : Int64} (h : X8 ob L E A C l P i3 l8) (n : Int32) : ∀ (m fuel d : Nat), m < fuel → E + d ≤ L → L - (E + d) ≤ m →
    L_law_l514 NF z f k fuel ob (n32 L) i3 (n32 (cnt ob)) (n32 (sc (lgo ob) n.toInt E d).1) (n32 A) (n32 C) l8 i10 n (n32 l.length) (n32 (sc (lgo ob) n.toInt E d).2) (n32 (E + d + 1)) = some 1 := by
  have lc : (L : Int) ≤ 64 := h.hI.lc
  have ll : l.length ≤ 128 := by obtain ⟨q, -, -, -, q4, -⟩ := h.hS.ql; exact q4
  have fin : ∀ {kk}, L_law_w514 NF z f k kk ob (n32 L) i3 (n32 (cnt ob)) (n32 (sc (lgo ob) n.toInt E (L - E)).1) (n32 A) (n32 C) l8 i10 n (n32 l.length) (n32 (sc (lgo ob) n.toInt E (L - E)).2) (n32 (L + 1)) = some 1 := by
    intro kk
    unfold L_law_w514
    obtain ⟨r, l', r1, r2, r3, r4, r5, r6⟩ := str_e NF hNF h.hI (by decide) h.hS n
    have ll' : l'.length ≤ 128 := by obtain ⟨q, -, -, -, q4, -⟩ := r3.ql; exact q4
    have g9 : gI r 9 = n32 l'.length := by obtain ⟨q, -, -, q3, -⟩ := r3.ql; exact q3
    have i3' : X_info NF r 3 = some (gI r 9) := rfl
    have sb := (sc_b (lgo ob) n.toInt E (L - E)).1
    obtain ⟨x1, x2⟩ := X8_s h r2 r3 (fun j x hj => r6 j x (by omega))
    rw [if_pos (by rw [n32_lt (by clear h r3 x1; omega) (by clear h r3 x1; omega)]; clear h r3 x1; omega), r1, bind2_some, if_pos rfl, i3', Option.bind_some, g9, n32_add (by clear h r3 x1; omega) (by clear h r3 x1; omega), if_neg (by rw [n32_lt (by clear h r3 x1; omega) (by clear h r3 x1; omega)]; clear h r3 x1; omega)]
    exact b769_e NF hNF z f nx x1 x2
  intro m
  induction m with
  | zero =>
    intro fuel d hf h1 h2
    obtain ⟨g, rfl⟩ : ∃ g, fuel = g + 1 := ⟨fuel - 1, by clear h; omega⟩
    have e : d = L - E := by clear h; omega
    have e' : E + d + 1 = L + 1 := by clear h; omega
    rw [e', e]
    exact fin
  | succ m ih =>
    intro fuel d hf h1 h2
    obtain ⟨g, rfl⟩ : ∃ g, fuel = g + 1 := ⟨fuel - 1, by clear h; omega⟩
    by_cases c : E + d = L
    · have e : d = L - E := by clear h; omega
      rw [c, e]
      exact fin
    · show L_law_w514 NF z f k (L_law_l514 NF z f k g) ob (n32 L) i3 (n32 (cnt ob)) (n32 (sc (lgo ob) n.toInt E d).1) (n32 A) (n32 C) l8 i10 n (n32 l.length) (n32 (sc (lgo ob) n.toInt E d).2) (n32 (E + d + 1)) = some 1
      unfold L_law_w514
      have sb := (sc_b (lgo ob) n.toInt E d).1
      have nxt := ih g (d + 1) (by clear h; omega) (by clear h; omega) (by clear h; omega)
      have e1 : sc (lgo ob) n.toInt E (d + 1) = if ((sc (lgo ob) n.toInt E d).2 : Int) < n.toInt ∧ lgo ob 0 (E + d + 1) = 4 then (E + d + 1, (sc (lgo ob) n.toInt E d).2 + 1) else sc (lgo ob) n.toInt E d := rfl
      have bc := bitc h (p := E + d + 1) (by clear h; omega) (by clear h; omega)
      rw [if_neg (by rw [n32_lt (by clear h; omega) (by clear h; omega)]; clear h; omega), n32_s (i := E + d + 1) (by clear h; omega), n32_s (by clear h; omega)]
      by_cases a : n32 (sc (lgo ob) n.toInt E d).2 < n
      · have a' : ((sc (lgo ob) n.toInt E d).2 : Int) < n.toInt := by rw [lt_i, nt _ (by clear h; omega)] at a; exact a
        rw [if_pos a]
        by_cases b : lgo ob 0 (E + d + 1) = 4
        · rw [if_pos (bc.mpr b)]
          rw [e1, if_pos ⟨a', b⟩] at nxt; exact nxt
        · rw [if_neg (fun x => b (bc.mp x))]
          rw [e1, if_neg (fun x => b x.2)] at nxt; exact nxt
      · have a' : ¬ ((sc (lgo ob) n.toInt E d).2 : Int) < n.toInt := by rw [lt_i, nt _ (by clear h; omega)] at a; exact a
        rw [if_neg a]
        rw [e1, if_neg (fun x => a' x.1)] at nxt; exact nxt
theorem n32_sub {i j : Nat} (hi : i < 1000) (hj : j ≤ i) : n32 i - n32 j = n32 (i - j) := eq_i32.mpr (by rw [sb (by rw [nt i (by omega), nt j (by omega)]; omega), nt i (by omega), nt j (by omega), nt (i - j) (by omega)]; omega)
theorem t_apl (NF : Nat) (hNF : 200 < NF) (z : Int32) (f : Int32 → Int32) {k : K8} {i10 : Int32} (nx : NX k i10) {ob : Rec} {L E A C : Nat} {l : List Msg} {P : Pd} {i3 : Int32} {l8 : Int64} (h : X8 ob L E A C l P i3 l8) (n : Int32) {t0 : Int32} (ht : t0 = n32 (min n.toInt.toNat l.length)) :
    L_law_b613 NF z f k ob (n32 L) i3 (n32 (cnt ob)) (n32 E) (n32 A) (n32 C) l8 i10 n (n32 l.length) t0 = some 1 := by
  have lc : (L : Int) ≤ 64 := h.hI.lc
  have ll : l.length ≤ 128 := by obtain ⟨q, -, -, -, q4, -⟩ := h.hS.ql; exact q4
  have eL := h.hS.hE.1
  have aL := h.hS.hA.1
  unfold L_law_b613
  obtain ⟨r, A', P', r1, r2, r3, r4, r5, r6⟩ := apl_e NF hNF h.hI (by decide) h.hS n
  have g9 : gI r 9 = n32 (l.length - min n.toInt.toNat l.length) := by
    obtain ⟨q, -, -, q3, -⟩ := r3.ql
    rw [List.length_drop] at q3; exact q3
  have i3' : X_info NF r 3 = some (gI r 9) := rfl
  have i4' : X_info NF r 4 = some (gI r 6) := rfl
  obtain ⟨x1, x2⟩ := X8_s h r2 r3 (fun j x hj => r6 j x (by omega))
  rw [r1, bind2_some, if_pos ht.symm, i3', Option.bind_some, g9, ht, n32_sub (by clear h r3 x1; omega) (Nat.min_le_right _ _), if_pos rfl, i4', Option.bind_some, r3.e6]
  rcases r4 with r4 | ⟨y1, y2, y3⟩
  · rw [if_pos (by rw [r4])]
    rw [r4] at x1
    exact b769_e NF hNF z f nx x1 x2
  · rw [if_neg (n32_ne (by clear h r3 x1; omega) (by clear h r3 x1; omega) (by clear h r3 x1; omega)), if_neg (by rw [n32_lt (by clear h r3 x1; omega) (by clear h r3 x1; omega)]; clear h r3 x1; omega), if_neg (by rw [n32_lt (by clear h r3 x1; omega) (by clear h r3 x1; omega)]; clear h r3 x1; omega), if_pos ((bitc h (by clear h r3 x1; omega) (by clear h r3 x1; omega)).mpr y3)]
    exact b769_e NF hNF z f nx x1 x2
theorem t_132 (NF : Nat) (hNF : 200 < NF) (z : Int32) (f : Int32 → Int32) {k : K8} {i10 : Int32} (nx : NX k i10) {ob : Rec} {L E A C : Nat} {l : List Msg} {P : Pd} {i3 : Int32} {l8 : Int64} (h : X8 ob L E A C l P i3 l8) {i11 s y n v i16 t0 : Int32} (hy : In 9 y) (hn : In 4 n) (h16 : i16 = 0 ↔ ¬ In 4 s) (ht : In 4 s → (t0 = 0 ↔ gA ob 5 s = 0)) (hu : ¬ In 4 s → t0 = 0) :
    L_law_b132 NF z f k ob (n32 L) i3 (n32 (cnt ob)) (n32 E) (n32 A) (n32 C) l8 i10 i11 s y n v i16 t0 = some 1 := by
  have ll : l.length ≤ 128 := by obtain ⟨q, -, -, -, q4, -⟩ := h.hS.ql; exact q4
  have wr : L_law_b217 NF z f k ob (n32 L) i3 (n32 (cnt ob)) (n32 E) (n32 A) (n32 C) l8 i10 i11 s y v i16 t0 = some 1 := by
    have w1 : ∀ i18 t2, (In 4 s → (t2 = 0 ↔ ¬ gA ob 5 s = 0)) → L_law_b243 NF z f k ob (n32 L) i3 (n32 (cnt ob)) (n32 E) (n32 A) (n32 C) l8 i10 s y v i18 (n32 L) i16 t2 = some 1 := by
      intro i18 t2 h2
      unfold L_law_b243
      by_cases c : 7 < y
      · rw [if_pos c]; exact t_wrt NF hNF z f nx h (t0 := 0) hy h16 h2 ⟨fun x => absurd x (by decide), fun x => absurd c x⟩
      · rw [if_neg c]; exact t_wrt NF hNF z f nx h (t0 := 0) hy h16 h2 ⟨fun _ => c, fun _ => rfl⟩
    have w2 : ∀ i18, L_law_b228 NF z f k ob (n32 L) i3 (n32 (cnt ob)) (n32 E) (n32 A) (n32 C) l8 i10 s y v i16 t0 i18 = some 1 := by
      intro i18
      unfold L_law_b228
      by_cases c : t0 = 0
      · rw [if_pos c]; exact w1 i18 1 (fun x => ⟨fun e => absurd e (by decide), fun e => absurd ((ht x).mp c) e⟩)
      · rw [if_neg c]; exact w1 i18 0 (fun x => ⟨fun _ e => c ((ht x).mpr e), fun _ => rfl⟩)
    unfold L_law_b217
    split
    · exact w2 1
    · exact w2 0
  have cm : ∀ i18, L_law_b369 NF z f k ob (n32 L) i3 (n32 (cnt ob)) (n32 E) (n32 A) (n32 C) l8 i10 s i16 t0 i18 = some 1 := by
    intro i18
    unfold L_law_b369
    by_cases c : t0 = 0
    · rw [if_pos c]; exact t_com NF hNF z f nx h h16 (fun x => ⟨fun e => absurd e (by decide), fun e => absurd ((ht x).mp c) e⟩)
    · rw [if_neg c]; exact t_com NF hNF z f nx h h16 (fun x => ⟨fun _ e => c ((ht x).mpr e), fun _ => rfl⟩)
  have i3e : ∀ r, X_info NF r 3 = some (gI r 9) := fun _ => rfl
  have g9 : gI ob 9 = n32 l.length := by obtain ⟨q, -, -, q3, -⟩ := h.hS.ql; exact q3
  unfold L_law_b132
  split
  · split
    · split
      · exact wr
      · split
        · split
          · split
            · split
              · obtain ⟨r, r1, r2, r3, r4, r5⟩ := fb_e h.hI h.hS
                obtain ⟨x1, x2⟩ := X8_s h r2 r3 (fun j x hj => r5 j x)
                rw [r1, bind2_some, if_pos rfl]
                exact b769_e NF hNF z f nx x1 x2
              · split
                · obtain ⟨r, r1, r2, r3, r4, r5, r6⟩ := cpu_e NF hNF h.hI h.hS
                  have q9 : gI r 9 = 0 := by obtain ⟨q, -, -, q3, -⟩ := r3.ql; exact q3
                  have el : lgo r = lgo ob := lgo_c (fun j x hj => r5 j x (by omega) (by omega))
                  have x1 : X8 r L C A C [] (fun _ => none) 0 l8 := ⟨r2, r3, by decide, fun s hs => by rw [o_0 s (l4.mp hs), r6 s ⟨hs.1, by have := hs.2; clear h r3; omega⟩]; rfl, fun p a b => by rw [el]; exact h.cm p a b⟩
                  have x2 : 0 = cnt r := by
                    have : cnt r = cN (fun _ => false) 4 := cN_eq 4 (fun i hi => by rw [r6 _ (ni (n := 8) (show i < 8 by clear h r3 x1; omega) (by decide))]; rfl)
                    rw [this]; rfl
                  rw [r1, Option.bind_some, i3e, Option.bind_some, q9, if_pos rfl]
                  exact b769_e NF hNF z f nx x1 x2
                · obtain ⟨r, r1, r2, r3, r4, r5⟩ := csu_e NF hNF h.hI h.hS
                  have q9 : gI r 9 = 0 := by obtain ⟨q, -, -, q3, -⟩ := r3.ql; exact q3
                  obtain ⟨x1, x2⟩ := X8_s h r2 r3 (fun j x hj => r5 j x (by omega))
                  rw [r1, Option.bind_some, i3e, Option.bind_some, q9, if_pos rfl]
                  exact b769_e NF hNF z f nx x1 x2
            · rw [i3e, Option.bind_some, g9]
              by_cases c : n < n32 l.length
              · have c' : n.toInt < l.length := by rw [lt_i, nt _ (by clear h; omega)] at c; exact c
                rw [if_pos c]
                refine t_apl NF hNF z f nx h n ?_
                rw [Nat.min_eq_left (by clear h; omega), n32_t n hn.1]
              · have c' : ¬ n.toInt < l.length := by rw [lt_i, nt _ (by clear h; omega)] at c; exact c
                rw [if_neg c]
                refine t_apl NF hNF z f nx h n ?_
                rw [Nat.min_eq_right (by clear h; omega)]
          · rw [i3e, Option.bind_some, g9]
            have lc : (L : Int) ≤ 64 := h.hI.lc
            have eL := h.hS.hE.1
            have := t_str NF hNF z f nx h n 100 NF 0 (by clear h; omega) (by clear h; omega) (by clear h; omega)
            rw [n32_s (by clear h; omega)]
            exact this
        · split
          · exact cm 1
          · exact cm 0
    · exact wr
  · exact t_bgn NF hNF z f nx h h16 ht hu
theorem law_l (NF : Nat) (hNF : 200 < NF) (z : Int32) (f : Int32 → Int32) (hz : 0 ≤ z.toInt ∧ z.toInt ≤ 260) : ∀ (m fuel : Nat) (ob : Rec) (L E A C : Nat) (l : List Msg) (P : Pd) (i3 : Int32) (l8 : Int64) (i : Int32), m < fuel → X8 ob L E A C l P i3 l8 → (0 ≤ i.toInt ∧ i.toInt ≤ 300) → z.toInt - i.toInt ≤ m → L_law_l36 NF z f fuel ob (n32 L) i3 (n32 (cnt ob)) (n32 E) (n32 A) (n32 C) l8 i = some 1 := by
  intro m
  induction m with
  | zero =>
    intro fuel ob L E A C l P i3 l8 i hf h hi hm
    obtain ⟨n, rfl⟩ : ∃ n, fuel = n + 1 := ⟨fuel - 1, by clear h; omega⟩
    show L_law_w36 NF z f _ ob (n32 L) i3 (n32 (cnt ob)) (n32 E) (n32 A) (n32 C) l8 i = _
    unfold L_law_w36
    have e3 : (i + 3).toInt = i.toInt + 3 := by rw [ad (by show -2147483648 ≤ i.toInt + 3 ∧ i.toInt + 3 < 2147483648; clear h; omega)]; rfl
    rw [if_neg (by rw [lt_i, e3]; clear h; omega)]
  | succ m ih =>
    intro fuel ob L E A C l P i3 l8 i hf h hi hm
    obtain ⟨n, rfl⟩ : ∃ n, fuel = n + 1 := ⟨fuel - 1, by clear h; omega⟩
    show L_law_w36 NF z f (L_law_l36 NF z f n) ob (n32 L) i3 (n32 (cnt ob)) (n32 E) (n32 A) (n32 C) l8 i = _
    unfold L_law_w36
    have e1 : (i + 1).toInt = i.toInt + 1 := s1 (by clear h; omega)
    have e2 : (i + 2).toInt = i.toInt + 2 := by rw [ad (by show -2147483648 ≤ i.toInt + 2 ∧ i.toInt + 2 < 2147483648; clear h; omega)]; rfl
    have e3 : (i + 3).toInt = i.toInt + 3 := by rw [ad (by show -2147483648 ≤ i.toInt + 3 ∧ i.toInt + 3 < 2147483648; clear h; omega)]; rfl
    have e4 : (i + 4).toInt = i.toInt + 4 := by rw [ad (by show -2147483648 ≤ i.toInt + 4 ∧ i.toInt + 4 < 2147483648; clear h; omega)]; rfl
    by_cases cz : i + 3 < z
    · have cz' : i.toInt + 3 < z.toInt := by rw [lt_i, e3] at cz; exact cz
      rw [if_pos cz, chk_ok (by clear h; omega), chk_ok (by rw [e1]; clear h; omega), chk_ok (by rw [e2]; clear h; omega), chk_ok (by rw [e2]; clear h; omega), chk_ok (by rw [e3]; clear h; omega)]
      have nx : NX (L_law_l36 NF z f n) i := fun ob' L' E' A' C' l' P' i3' l8' h' => ih n ob' L' E' A' C' l' P' i3' l8' (i + 4) (by clear h h'; omega) h' (by rw [e4]; clear h h'; omega) (by rw [e4]; clear h h'; omega)
      have b7 := and_b (f (i + 1)) 7 7 rfl (by decide)
      have b15 := and_b (f (i + 2)) 15 15 rfl (by decide)
      have b3 := and_b (f (i + 2)) 3 3 rfl (by decide)
      have hs : In 5 (((f (i + 1)) &&& 7) % 5) := by
        unfold In; rw [md b7.1 (by decide)]; show 0 ≤ _ % (5 : Int) ∧ _ % (5 : Int) < 5; clear h; omega
      have hy : In 9 (((f (i + 2)) &&& 15) % 9) := by
        unfold In; rw [md b15.1 (by decide)]; show 0 ≤ _ % (9 : Int) ∧ _ % (9 : Int) < 9; clear h; omega
      have hn : In 4 ((f (i + 2)) &&& 3) := ⟨b3.1, by have := b3.2; clear h; omega⟩
      generalize ((f (i + 1)) &&& 7) % 5 = s at hs ⊢
      generalize ((f (i + 2)) &&& 15) % 9 = y at hy ⊢
      generalize (f (i + 2)) &&& 3 = nn at hn ⊢
      have s4 : s < 4 ↔ In 4 s := by rw [lt_i]; show s.toInt < 4 ↔ _; unfold In at hs ⊢; clear h; omega
      unfold L_law_b110
      by_cases c : s < 4
      · have c4 := s4.mp c
        rw [if_pos c, if_neg (by decide)]
        have o := h.op s c4
        unfold ob1 at o
        by_cases d : (i3 >>> (s &&& 31)) &&& 1 = 1
        · rw [if_pos d]
          rw [decide_eq_true d] at o
          exact t_132 NF hNF z f nx h hy hn ⟨fun x => absurd x (by decide), fun x => absurd c4 x⟩ (fun _ => ⟨fun x => absurd x (by decide), fun x => by rw [decide_eq_true x] at o; exact absurd o (by decide)⟩) (fun x => absurd c4 x)
        · rw [if_neg d]
          rw [decide_eq_false d] at o
          refine t_132 NF hNF z f nx h hy hn ⟨fun x => absurd x (by decide), fun x => absurd c4 x⟩ (fun _ => ⟨fun _ => ?_, fun _ => rfl⟩) (fun x => absurd c4 x)
          by_cases e : gA ob 5 s = 0
          · exact e
          · rw [decide_eq_false e] at o; exact absurd o (by decide)
      · have c4 : ¬ In 4 s := fun x => c (s4.mpr x)
        rw [if_neg c, if_pos rfl]
        exact t_132 NF hNF z f nx h hy hn ⟨fun _ => c4, fun _ => rfl⟩ (fun x => absurd x c4) (fun _ => rfl)
    · rw [if_neg cz]
theorem owed : ∀ (z : Int32) (f : Int32 → Int32), ¬ z < 0 → z ≤ 260 → ∃ NF, L_law NF z f = some 1 := by
  intro z f h0 h1
  refine ⟨400, ?_⟩
  have h1' : z.toInt ≤ 260 := le_i.mp h1
  obtain ⟨r, r1, r2, r3, r4, r5⟩ := ini_s 4 64 2 (by decide) (by decide) (by decide)
  unfold L_law
  rw [r1, Option.bind_some]
  have x1 : X8 r 0 0 0 0 [] (fun _ => none) 0 0 := ⟨r2, r3, by decide, fun s hs => by rw [o_0 s (l4.mp hs), r5]; rfl, fun p a b => by
    rw [decide_eq_false (show ¬ p ≤ 0 by omega)]
    show (0#64).getLsbD _ = _
    simp⟩
  have x2 : cnt r = 0 := by
    have : cnt r = cN (fun _ => false) 4 := cN_eq 4 (fun i hi => by rw [r5]; rfl)
    rw [this]; rfl
  have := law_l 400 (by omega) z f ⟨nneg' h0, h1'⟩ 300 400 r 0 0 0 0 _ _ 0 0 0 (by omega) x1 (by decide) (by show z.toInt - 0 ≤ _; omega)
  rw [x2] at this
  exact this
-- owed : ∀ (z : Int32) (f : Int32 → Int32), ¬ z < 0 → z ≤ 260 → ∃ NF, L_law NF z f = some 1
--COMES--
set_option maxRecDepth 65536 in
set_option maxHeartbeats 4000000 in
theorem comes_1 {Post : Tables → Env → Array Value → State → Outcome → State → Prop} (hpost : ∀ tb e args s v u, (limb_1_1.after args s (.returned v) u = true ∧ limb_1_2.after args s (.returned v) u = true ∧ True) → FrameEnd s (.returned v) u (Jvm.fieldLocs frame_1_writes args s ++ Jvm.arrayLocs frame_1_arrays args s ++ Jvm.staticLocs frame_1_statics s) 48 2880 → Post tb e args s (.returned v) u) :
    ArmFor flags0 classFile x code maxLocals ret World_1 tables_1 room_1 Calls_1 rest_1 Pre_1 Post := by
  intro l hfl _ _ p e ha hc hk s m args below hf hA hF happ hP
  obtain ⟨hcalls, hrest, hpre⟩ := hP
  obtain ⟨-, -, -, hnamed, -, -, -, hat⟩ := (Spec.applies_iff hf).mp happ
  obtain ⟨hg, hn⟩ := and_e (Cond.before_iff.mp (show (Jvm.Cond.and given_1 narrow_1).before args s = true from hpre))
  obtain ⟨hcnt, hg⟩ := and_e hg
  obtain ⟨w0, rfl⟩ : ∃ w0 : Value, args = #[w0] := by
    have hs : args.size = 1 := by simpa [Cond.value, given_1] using hcnt
    obtain ⟨L⟩ := args
    match L, hs with
    | [w0], _ => exact ⟨w0, rfl⟩
  have hw := fun d (hd : d ∈ tables_1) => atoms_spec (ws := Jvm.Cond.code x code maxLocals ret :: tables_1) hat d (List.mem_cons_of_mem _ hd)
  have hfit : Fit s := fun {y c} hc i hi => by
    obtain ⟨ha, rfl⟩ := Array.getElem?_eq_some_iff.mp hc
    have q := List.all_eq_true.mp ((Array.all_eq_true_iff_forall_mem.mp hF) _ (Array.getElem_mem ha)) i (List.mem_range.mpr hi)
    simpa [Array.getElem?_eq_getElem hi] using q
  obtain ⟨n1, n2⟩ := and_e hn
  obtain ⟨sa, ev⟩ := arr_v n1
  obtain rfl : w0 = .ref sa := Option.some.inj ev
  obtain ⟨cl, A⟩ := Arr.start ev n1
  have hsz : cl.slots.size < 2 ^ 31 := by
    rcases Nat.lt_or_ge cl.slots.size (2 ^ 31) with q | q
    · exact q
    · have u : (Term.length (.arg 0)).eval #[.ref sa] s none [] s = none := by
        have v : s.arrayAt? sa = some cl := A.fin (Vm.Alike.refl _)
        have e' : ¬ cl.slots.size < 2 ^ 31 := by omega
        simp only [Term.eval] at ev ⊢
        simp [v, e']
      simp [Cond.value, u] at n2
  obtain ⟨z, hz, F⟩ := Scr.start hfit A hsz
  have hle : z ≤ 260 := by
    have u := len_f (t := .arg 0) (args := #[.ref sa]) (first := s) (o := none) (idx := []) ev (A.fin (Vm.Alike.refl _)) hsz
    rw [hz]; first | (simp only [Cond.value, u] at n2; simpa [Term.eval] using n2) | (simp [Cond.value, u, Term.int_eval] at n2; exact n2) | (simp [Cond.value, u, Term.int_eval] at n2; simpa using n2)
  obtain ⟨NF, hlaw⟩ := owed z (atv cl) F.2.2.1 hle
  have hp := L_law_pay (C := (l, s, s.heap.size, #[.ref sa])) (⟨cl, F, rfl⟩ : ScrF (l, s, s.heap.size, #[.ref sa]) sa z (atv cl)) hlaw hw s.heap (Rep.start s) tables_1
  obtain ⟨n, o, h1, h2, h3, v, L, rfl, ⟨N, G', -, rfl⟩, hq⟩ := hp p e ha hc hk s m _ below hf ((Spec.applies_iff_loose hf).mp happ).1 ⟨rfl, State.Warmed39.refl s, rfl⟩ trivial
  refine ⟨n, _, h1, h2, h3, hpost _ _ _ _ _ _ ⟨Cond.after_iff.mpr rfl, Cond.after_iff.mpr (eq_i res_at (Term.int_eval (1)) rfl), trivial⟩ ⟨hq.1, hq.2.1, (hq.2.2.sift fun y hy => Or.inr (N y hy)).mono (by decide) (by decide)⟩⟩
theorem main_1_1 : Claimed_1_1 := comes_1 fun _ _ _ _ _ _ h hF => ⟨h.1, hF⟩
theorem main_1_2 : Claimed_1_2 := comes_1 fun _ _ _ _ _ _ h hF => ⟨h.2.1, hF⟩
end Jvm.Pilot.@@N@@
namespace Jvm.Pilot.@@N@@
open Jvm Jvm.ClassFile Sem Op Lib Jvm.Free Jvm.Stand Jvm.Pilot.@@N@@.Jvm.D
/-! MADE BY PROGRAM (witnessworld.py) out of the Statement's table words and the real class files: 11 classes; the members and pool entries that the words name. The judged class is class 1, her method 3. -/
namespace start1
open Jvm.ClassFile
def u (s : String) : CpInfo := .utf8 (stringToUtf16 s)
/-- a pool by its gaps: so many unusable entries, then the entry; so many at the end -/
def gap : Nat → List CpInfo → List CpInfo
  | 0, r => r
  | n + 1, r => .unusable :: gap n r
def poolList (es : List (Nat × CpInfo)) (last : Nat) : List CpInfo := es.foldr (fun e r => gap e.1 (e.2 :: r)) (gap last [])
def pool (es : List (Nat × CpInfo)) (last : Nat) : Array CpInfo := ⟨poolList es last⟩
def fileOf (pool : Array CpInfo) (this : Nat) (attrs : Array Attribute := #[]) (ms : Array MethodInfo := #[]) (fl : Nat := 33) (sup : Nat := 0) (ifs : Array Nat := #[]) (fds : Array FieldInfo := #[]) : ClassFile where
  minorVersion := 0
  majorVersion := 65
  constantPool := pool
  accessFlags := fl
  thisClass := this
  superClass := sup
  interfaces := ifs
  fields := fds
  methods := ms
  attributes := attrs
def plain (name : String) (sup : Option ClassId) : Class where
  name := name
  kind := .ordinary
  loader := none
  accessFlags := 33
  super := sup
  interfaces := #[]
  cf := none
  fields := #[]
  methods := #[]
  instanceTypes := #[]
  staticTypes := #[]
  resolved := #[]
  callSites := []
  init := .initialized
  statics := none
  mirror := none

def pool0 : Array CpInfo := pool [(5, u "<init>"), (0, u "()V"), (1, .class_ 10), (1, u "java/lang/Object")] 113

def k0c0 : Code := { maxStack := 0, maxLocals := 1, code := object_method_1_code, exceptionTable := #[], attributes := #[] }
def k0m0 : Method := { name := "<init>", desc := "()V", sig := { parameters := [], returnType := none }, accessFlags := 1, code := some k0c0 }
/-- java/lang/Object -/
def k0 : Class := { plain "java/lang/Object" none with
  accessFlags := 33
  interfaces := #[]
  cf := some (fileOf pool0 8 #[] #[{ accessFlags := 1, nameIndex := 5, descriptorIndex := 6, attributes := #[] }] 33 0 #[] #[])
  fields := #[]
  methods := #[k0m0]
  instanceTypes := #[]
  staticTypes := #[]
  resolved := Array.replicate 124 none
  statics := none }

def pool1 : Array CpInfo := pool [(2, .class_ 4), (1, u "java/lang/Object"), (0, u "<init>"), (0, u "()V"), (0, .integer 65536), (0, .class_ 9), (0, u "LogicalReplicator"), (0, .methodref 8 11), (0, .nameAndType 5 12), (0, u "(IIII)V"), (0, .methodref 14 15), (0, .class_ 16), (0, .nameAndType 17 18), (0, u "LogicalReplicatorL6"), (0, u "want"), (0, u "(IZZZ)I"), (0, .methodref 8 20), (0, .nameAndType 21 22), (0, u "begin"), (0, u "(I)I"), (0, .methodref 8 24), (0, .nameAndType 25 26), (0, u "logRecord"), (0, u "(I)J"), (0, .methodref 14 28), (0, .nameAndType 29 30), (0, u "rec"), (0, u "(IIII)J"), (0, .methodref 8 32), (0, .nameAndType 33 34), (0, u "del"), (0, u "(II)I"), (0, .methodref 8 36), (0, .nameAndType 37 38), (0, u "put"), (0, u "(III)I"), (0, .methodref 8 40), (0, .nameAndType 41 22), (0, u "abort"), (0, .methodref 8 43), (0, .nameAndType 44 22), (0, u "commit"), (0, .methodref 8 46), (0, .nameAndType 47 22), (0, u "info"), (0, .methodref 8 49), (0, .nameAndType 50 22), (0, u "stream"), (0, .methodref 8 52), (0, .nameAndType 53 22), (0, u "apply"), (0, .methodref 8 55), (0, .nameAndType 56 57), (0, u "feedback"), (0, u "()I"), (0, .methodref 8 59), (0, .nameAndType 60 6), (0, u "crashPublisher"), (0, .methodref 8 62), (0, .nameAndType 63 6), (0, u "crashSubscriber"), (3, u "law"), (0, u "([I)Z")] 4

def k1m0 : Method := { name := "<init>", desc := "()V", sig := { parameters := [], returnType := none }, accessFlags := 1, code := none }
def k1c1 : Code := { maxStack := 5, maxLocals := 4, code := method_2_code, exceptionTable := #[], attributes := #[] }
def k1m1 : Method := { name := "rec", desc := "(IIII)J", sig := { parameters := [.int, .int, .int, .int], returnType := some .long }, accessFlags := 10, code := some k1c1 }
def k1c2 : Code := { maxStack := 2, maxLocals := 4, code := method_3_code, exceptionTable := #[], attributes := #[] }
def k1m2 : Method := { name := "want", desc := "(IZZZ)I", sig := { parameters := [.int, .boolean, .boolean, .boolean], returnType := some .int }, accessFlags := 10, code := some k1c2 }
def k1c3 : Code := { maxStack := 6, maxLocals := 23, code := code, exceptionTable := #[], attributes := #[] }
def k1m3 : Method := { name := "law", desc := "([I)Z", sig := { parameters := [(.array .int)], returnType := some .boolean }, accessFlags := 9, code := some k1c3 }
/-- LogicalReplicatorL6 -/
def k1 : Class := { plain "LogicalReplicatorL6" (some 0) with
  accessFlags := 33
  interfaces := #[]
  cf := some (fileOf pool1 14 #[] #[{ accessFlags := 1, nameIndex := 5, descriptorIndex := 6, attributes := #[] }, { accessFlags := 10, nameIndex := 29, descriptorIndex := 30, attributes := #[] }, { accessFlags := 10, nameIndex := 17, descriptorIndex := 18, attributes := #[] }, { accessFlags := 9, nameIndex := 67, descriptorIndex := 68, attributes := #[] }] 33 2 #[] #[])
  fields := #[]
  methods := #[k1m0, k1m1, k1m2, k1m3]
  instanceTypes := #[]
  staticTypes := #[]
  resolved := Array.replicate 73 none
  statics := none }

def pool2 : Array CpInfo := pool [(1, .methodref 2 3), (0, .class_ 4), (0, .nameAndType 5 6), (0, u "java/lang/Object"), (0, u "<init>"), (0, u "()V"), (0, .fieldref 8 9), (0, .class_ 10), (0, .nameAndType 11 12), (0, u "LogicalReplicator"), (0, u "recKind"), (0, u "[I"), (0, .fieldref 8 14), (0, .nameAndType 15 12), (0, u "recSlot"), (0, .fieldref 8 17), (0, .nameAndType 18 12), (0, u "recKey"), (0, .fieldref 8 20), (0, .nameAndType 21 12), (0, u "recVal"), (0, .fieldref 8 23), (0, .nameAndType 24 12), (0, u "recBegin"), (0, .fieldref 8 26), (0, .nameAndType 27 28), (0, u "slotOpen"), (0, u "[Z"), (0, .fieldref 8 30), (0, .nameAndType 31 12), (0, u "slotBegin"), (0, .fieldref 8 33), (0, .nameAndType 34 28), (0, u "pubHas"), (0, .fieldref 8 36), (0, .nameAndType 37 12), (0, u "pubVal"), (0, .fieldref 8 39), (0, .nameAndType 40 28), (0, u "subHas"), (0, .fieldref 8 42), (0, .nameAndType 43 12), (0, u "subVal"), (0, .fieldref 8 45), (0, .nameAndType 46 12), (0, u "pendKind"), (0, .fieldref 8 48), (0, .nameAndType 49 12), (0, u "pendVal"), (0, .fieldref 8 51), (0, .nameAndType 52 12), (0, u "qKind"), (0, .fieldref 8 54), (0, .nameAndType 55 12), (0, u "qKey"), (0, .fieldref 8 57), (0, .nameAndType 58 12), (0, u "qVal"), (0, .fieldref 8 60), (0, .nameAndType 61 12), (0, u "qPos"), (0, .methodref 8 63), (0, .nameAndType 64 65), (0, u "clamp"), (0, u "(III)I"), (0, .fieldref 8 67), (0, .nameAndType 68 69), (0, u "nKeys"), (0, u "I"), (0, .fieldref 8 71), (0, .nameAndType 72 69), (0, u "nSlots"), (0, .fieldref 8 74), (0, .nameAndType 75 69), (0, u "logCap"), (0, .fieldref 8 77), (0, .nameAndType 78 69), (0, u "memCap"), (0, .fieldref 8 80), (0, .nameAndType 81 69), (0, u "length"), (0, .fieldref 8 83), (0, .nameAndType 84 69), (0, u "emittedPos"), (0, .fieldref 8 86), (0, .nameAndType 87 69), (0, u "appliedPos"), (0, .fieldref 8 89), (0, .nameAndType 90 69), (0, u "confirmedPos"), (0, .fieldref 8 92), (0, .nameAndType 93 69), (0, u "qHead"), (0, .fieldref 8 95), (0, .nameAndType 96 69), (0, u "qCount"), (0, .methodref 8 98), (0, .nameAndType 99 100), (0, u "validSlot"), (0, u "(I)Z"), (0, .methodref 8 102), (0, .nameAndType 103 104), (0, u "logFull"), (0, u "()Z"), (0, .methodref 8 106), (0, .nameAndType 107 108), (0, u "append"), (0, u "(IIII)I"), (0, .methodref 8 110), (0, .nameAndType 111 108), (0, u "write"), (0, .methodref 8 113), (0, .nameAndType 114 115), (0, u "checkOpenSlot"), (0, u "(I)I"), (0, .methodref 8 117), (0, .nameAndType 118 100), (0, u "validKey"), (0, .methodref 8 120), (0, .nameAndType 121 122), (0, u "applyToPublisher"), (0, u "(III)V"), (0, .methodref 8 124), (0, .nameAndType 125 115), (0, u "nextCommit"), (0, .methodref 8 127), (0, .nameAndType 128 129), (0, u "emitTransaction"), (0, u "(I)V"), (0, .methodref 8 131), (0, .nameAndType 132 133), (0, u "enqueue"), (0, u "(IIII)V"), (0, .methodref 8 135), (0, .nameAndType 136 6), (0, u "handleHead"), (0, .methodref 8 138), (0, .nameAndType 139 6), (0, u "applyPending"), (0, .methodref 8 141), (0, .nameAndType 142 6), (0, u "clearQueue"), (0, .methodref 8 144), (0, .nameAndType 145 6), (0, u "clearPending"), (6, .integer 65536), (0, .methodref 8 154), (0, .nameAndType 155 156), (0, u "countOpen"), (0, u "()I"), (6, u "OK"), (2, u "ERR_SLOT"), (1, u "ERR_STATE"), (1, u "ERR_KEY"), (1, u "ERR_FULL"), (1, u "REC_BEGIN"), (1, u "REC_PUT"), (1, u "REC_DEL"), (1, u "REC_COMMIT"), (1, u "REC_ABORT"), (1, u "ABSENT"), (0, u "J"), (0, u "DELETED"), (0, u "NO_CHANGE"), (0, u "INFO_LOG_LENGTH"), (0, u "INFO_OPEN"), (0, u "INFO_EMITTED"), (0, u "INFO_QUEUED"), (0, u "INFO_APPLIED"), (0, u "INFO_CONFIRMED"), (0, u "INFO_PUB_ROWS"), (1, u "INFO_SUB_ROWS"), (1, u "PEND_NONE"), (0, u "PEND_PUT"), (0, u "PEND_DEL"), (0, u "LOG_SLOTS"), (1, u "QUEUE_CAP"), (1, u "MAX_KEYS"), (1, u "MAX_SLOTS"), (4, u "begin"), (0, u "put"), (0, u "del"), (0, u "(II)I"), (0, u "commit"), (0, u "abort"), (0, u "stream"), (0, u "apply"), (0, u "feedback"), (0, u "crashPublisher"), (0, u "crashSubscriber"), (1, u "(I)J"), (2, u "logRecord"), (0, u "info")] 2

def k2c0 : Code := { maxStack := 5, maxLocals := 5, code := prog_1_method_1_code, exceptionTable := #[], attributes := #[] }
def k2m0 : Method := { name := "<init>", desc := "(IIII)V", sig := { parameters := [.int, .int, .int, .int], returnType := none }, accessFlags := 1, code := some k2c0 }
def k2c1 : Code := { maxStack := 2, maxLocals := 4, code := prog_1_method_2_code, exceptionTable := #[], attributes := #[] }
def k2m1 : Method := { name := "clamp", desc := "(III)I", sig := { parameters := [.int, .int, .int], returnType := some .int }, accessFlags := 2, code := some k2c1 }
def k2c2 : Code := { maxStack := 2, maxLocals := 2, code := prog_1_method_3_code, exceptionTable := #[], attributes := #[] }
def k2m2 : Method := { name := "validSlot", desc := "(I)Z", sig := { parameters := [.int], returnType := some .boolean }, accessFlags := 2, code := some k2c2 }
def k2c3 : Code := { maxStack := 2, maxLocals := 2, code := prog_1_method_4_code, exceptionTable := #[], attributes := #[] }
def k2m3 : Method := { name := "validKey", desc := "(I)Z", sig := { parameters := [.int], returnType := some .boolean }, accessFlags := 2, code := some k2c3 }
def k2c4 : Code := { maxStack := 2, maxLocals := 1, code := prog_1_method_5_code, exceptionTable := #[], attributes := #[] }
def k2m4 : Method := { name := "logFull", desc := "()Z", sig := { parameters := [], returnType := some .boolean }, accessFlags := 2, code := some k2c4 }
def k2c5 : Code := { maxStack := 2, maxLocals := 2, code := prog_1_method_6_code, exceptionTable := #[], attributes := #[] }
def k2m5 : Method := { name := "checkOpenSlot", desc := "(I)I", sig := { parameters := [.int], returnType := some .int }, accessFlags := 2, code := some k2c5 }
def k2c6 : Code := { maxStack := 3, maxLocals := 5, code := prog_1_method_7_code, exceptionTable := #[], attributes := #[] }
def k2m6 : Method := { name := "append", desc := "(IIII)I", sig := { parameters := [.int, .int, .int, .int], returnType := some .int }, accessFlags := 2, code := some k2c6 }
def k2c7 : Code := { maxStack := 5, maxLocals := 3, code := prog_1_method_8_code, exceptionTable := #[], attributes := #[] }
def k2m7 : Method := { name := "begin", desc := "(I)I", sig := { parameters := [.int], returnType := some .int }, accessFlags := 1, code := some k2c7 }
def k2c8 : Code := { maxStack := 5, maxLocals := 4, code := prog_1_method_9_code, exceptionTable := #[], attributes := #[] }
def k2m8 : Method := { name := "put", desc := "(III)I", sig := { parameters := [.int, .int, .int], returnType := some .int }, accessFlags := 1, code := some k2c8 }
def k2c9 : Code := { maxStack := 5, maxLocals := 3, code := prog_1_method_10_code, exceptionTable := #[], attributes := #[] }
def k2m9 : Method := { name := "del", desc := "(II)I", sig := { parameters := [.int, .int], returnType := some .int }, accessFlags := 1, code := some k2c9 }
def k2c10 : Code := { maxStack := 5, maxLocals := 6, code := prog_1_method_11_code, exceptionTable := #[], attributes := #[] }
def k2m10 : Method := { name := "write", desc := "(IIII)I", sig := { parameters := [.int, .int, .int, .int], returnType := some .int }, accessFlags := 2, code := some k2c10 }
def k2c11 : Code := { maxStack := 5, maxLocals := 5, code := prog_1_method_12_code, exceptionTable := #[], attributes := #[] }
def k2m11 : Method := { name := "commit", desc := "(I)I", sig := { parameters := [.int], returnType := some .int }, accessFlags := 1, code := some k2c11 }
def k2c12 : Code := { maxStack := 4, maxLocals := 7, code := prog_1_method_13_code, exceptionTable := #[], attributes := #[] }
def k2m12 : Method := { name := "applyToPublisher", desc := "(III)V", sig := { parameters := [.int, .int, .int], returnType := none }, accessFlags := 2, code := some k2c12 }
def k2c13 : Code := { maxStack := 5, maxLocals := 4, code := prog_1_method_14_code, exceptionTable := #[], attributes := #[] }
def k2m13 : Method := { name := "abort", desc := "(I)I", sig := { parameters := [.int], returnType := some .int }, accessFlags := 1, code := some k2c13 }
def k2c14 : Code := { maxStack := 2, maxLocals := 5, code := prog_1_method_15_code, exceptionTable := #[], attributes := #[] }
def k2m14 : Method := { name := "stream", desc := "(I)I", sig := { parameters := [.int], returnType := some .int }, accessFlags := 1, code := some k2c14 }
def k2c15 : Code := { maxStack := 2, maxLocals := 4, code := prog_1_method_16_code, exceptionTable := #[], attributes := #[] }
def k2m15 : Method := { name := "nextCommit", desc := "(I)I", sig := { parameters := [.int], returnType := some .int }, accessFlags := 2, code := some k2c15 }
def k2c16 : Code := { maxStack := 5, maxLocals := 6, code := prog_1_method_17_code, exceptionTable := #[], attributes := #[] }
def k2m16 : Method := { name := "emitTransaction", desc := "(I)V", sig := { parameters := [.int], returnType := none }, accessFlags := 2, code := some k2c16 }
def k2c17 : Code := { maxStack := 3, maxLocals := 6, code := prog_1_method_18_code, exceptionTable := #[], attributes := #[] }
def k2m17 : Method := { name := "enqueue", desc := "(IIII)V", sig := { parameters := [.int, .int, .int, .int], returnType := none }, accessFlags := 2, code := some k2c17 }
def k2c18 : Code := { maxStack := 2, maxLocals := 1, code := prog_1_method_19_code, exceptionTable := #[], attributes := #[] }
def k2m18 : Method := { name := "clearQueue", desc := "()V", sig := { parameters := [], returnType := none }, accessFlags := 2, code := some k2c18 }
def k2c19 : Code := { maxStack := 2, maxLocals := 4, code := prog_1_method_20_code, exceptionTable := #[], attributes := #[] }
def k2m19 : Method := { name := "apply", desc := "(I)I", sig := { parameters := [.int], returnType := some .int }, accessFlags := 1, code := some k2c19 }
def k2c20 : Code := { maxStack := 3, maxLocals := 6, code := prog_1_method_21_code, exceptionTable := #[], attributes := #[] }
def k2m20 : Method := { name := "handleHead", desc := "()V", sig := { parameters := [], returnType := none }, accessFlags := 2, code := some k2c20 }
def k2c21 : Code := { maxStack := 4, maxLocals := 2, code := prog_1_method_22_code, exceptionTable := #[], attributes := #[] }
def k2m21 : Method := { name := "applyPending", desc := "()V", sig := { parameters := [], returnType := none }, accessFlags := 2, code := some k2c21 }
def k2c22 : Code := { maxStack := 3, maxLocals := 2, code := prog_1_method_23_code, exceptionTable := #[], attributes := #[] }
def k2m22 : Method := { name := "clearPending", desc := "()V", sig := { parameters := [], returnType := none }, accessFlags := 2, code := some k2c22 }
def k2c23 : Code := { maxStack := 2, maxLocals := 1, code := prog_1_method_24_code, exceptionTable := #[], attributes := #[] }
def k2m23 : Method := { name := "feedback", desc := "()I", sig := { parameters := [], returnType := some .int }, accessFlags := 1, code := some k2c23 }
def k2c24 : Code := { maxStack := 3, maxLocals := 2, code := prog_1_method_25_code, exceptionTable := #[], attributes := #[] }
def k2m24 : Method := { name := "crashPublisher", desc := "()V", sig := { parameters := [], returnType := none }, accessFlags := 1, code := some k2c24 }
def k2c25 : Code := { maxStack := 2, maxLocals := 1, code := prog_1_method_26_code, exceptionTable := #[], attributes := #[] }
def k2m25 : Method := { name := "crashSubscriber", desc := "()V", sig := { parameters := [], returnType := none }, accessFlags := 1, code := some k2c25 }
def k2c26 : Code := { maxStack := 4, maxLocals := 6, code := prog_1_method_30_code, exceptionTable := #[], attributes := #[] }
def k2m26 : Method := { name := "logRecord", desc := "(I)J", sig := { parameters := [.int], returnType := some .long }, accessFlags := 1, code := some k2c26 }
def k2c27 : Code := { maxStack := 1, maxLocals := 2, code := prog_1_method_31_code, exceptionTable := #[], attributes := #[] }
def k2m27 : Method := { name := "info", desc := "(I)I", sig := { parameters := [.int], returnType := some .int }, accessFlags := 1, code := some k2c27 }
def k2c28 : Code := { maxStack := 2, maxLocals := 3, code := prog_1_method_32_code, exceptionTable := #[], attributes := #[] }
def k2m28 : Method := { name := "countOpen", desc := "()I", sig := { parameters := [], returnType := some .int }, accessFlags := 2, code := some k2c28 }
/-- LogicalReplicator -/
def k2 : Class := { plain "LogicalReplicator" (some 0) with
  accessFlags := 49
  interfaces := #[]
  cf := some (fileOf pool2 8 #[] #[{ accessFlags := 1, nameIndex := 5, descriptorIndex := 133, attributes := #[] }, { accessFlags := 2, nameIndex := 64, descriptorIndex := 65, attributes := #[] }, { accessFlags := 2, nameIndex := 99, descriptorIndex := 100, attributes := #[] }, { accessFlags := 2, nameIndex := 118, descriptorIndex := 100, attributes := #[] }, { accessFlags := 2, nameIndex := 103, descriptorIndex := 104, attributes := #[] }, { accessFlags := 2, nameIndex := 114, descriptorIndex := 115, attributes := #[] }, { accessFlags := 2, nameIndex := 107, descriptorIndex := 108, attributes := #[] }, { accessFlags := 1, nameIndex := 212, descriptorIndex := 115, attributes := #[] }, { accessFlags := 1, nameIndex := 213, descriptorIndex := 65, attributes := #[] }, { accessFlags := 1, nameIndex := 214, descriptorIndex := 215, attributes := #[] }, { accessFlags := 2, nameIndex := 111, descriptorIndex := 108, attributes := #[] }, { accessFlags := 1, nameIndex := 216, descriptorIndex := 115, attributes := #[] }, { accessFlags := 2, nameIndex := 121, descriptorIndex := 122, attributes := #[] }, { accessFlags := 1, nameIndex := 217, descriptorIndex := 115, attributes := #[] }, { accessFlags := 1, nameIndex := 218, descriptorIndex := 115, attributes := #[] }, { accessFlags := 2, nameIndex := 125, descriptorIndex := 115, attributes := #[] }, { accessFlags := 2, nameIndex := 128, descriptorIndex := 129, attributes := #[] }, { accessFlags := 2, nameIndex := 132, descriptorIndex := 133, attributes := #[] }, { accessFlags := 2, nameIndex := 142, descriptorIndex := 6, attributes := #[] }, { accessFlags := 1, nameIndex := 219, descriptorIndex := 115, attributes := #[] }, { accessFlags := 2, nameIndex := 136, descriptorIndex := 6, attributes := #[] }, { accessFlags := 2, nameIndex := 139, descriptorIndex := 6, attributes := #[] }, { accessFlags := 2, nameIndex := 145, descriptorIndex := 6, attributes := #[] }, { accessFlags := 1, nameIndex := 220, descriptorIndex := 156, attributes := #[] }, { accessFlags := 1, nameIndex := 221, descriptorIndex := 6, attributes := #[] }, { accessFlags := 1, nameIndex := 222, descriptorIndex := 6, attributes := #[] }, { accessFlags := 1, nameIndex := 227, descriptorIndex := 224, attributes := #[] }, { accessFlags := 1, nameIndex := 228, descriptorIndex := 115, attributes := #[] }, { accessFlags := 2, nameIndex := 155, descriptorIndex := 156, attributes := #[] }] 49 2 #[] #[{ accessFlags := 25, nameIndex := 163, descriptorIndex := 69, attributes := #[] }, { accessFlags := 25, nameIndex := 166, descriptorIndex := 69, attributes := #[] }, { accessFlags := 25, nameIndex := 168, descriptorIndex := 69, attributes := #[] }, { accessFlags := 25, nameIndex := 170, descriptorIndex := 69, attributes := #[] }, { accessFlags := 25, nameIndex := 172, descriptorIndex := 69, attributes := #[] }, { accessFlags := 25, nameIndex := 174, descriptorIndex := 69, attributes := #[] }, { accessFlags := 25, nameIndex := 176, descriptorIndex := 69, attributes := #[] }, { accessFlags := 25, nameIndex := 178, descriptorIndex := 69, attributes := #[] }, { accessFlags := 25, nameIndex := 180, descriptorIndex := 69, attributes := #[] }, { accessFlags := 25, nameIndex := 182, descriptorIndex := 69, attributes := #[] }, { accessFlags := 25, nameIndex := 184, descriptorIndex := 185, attributes := #[] }, { accessFlags := 25, nameIndex := 186, descriptorIndex := 185, attributes := #[] }, { accessFlags := 25, nameIndex := 187, descriptorIndex := 185, attributes := #[] }, { accessFlags := 25, nameIndex := 188, descriptorIndex := 69, attributes := #[] }, { accessFlags := 25, nameIndex := 189, descriptorIndex := 69, attributes := #[] }, { accessFlags := 25, nameIndex := 190, descriptorIndex := 69, attributes := #[] }, { accessFlags := 25, nameIndex := 191, descriptorIndex := 69, attributes := #[] }, { accessFlags := 25, nameIndex := 192, descriptorIndex := 69, attributes := #[] }, { accessFlags := 25, nameIndex := 193, descriptorIndex := 69, attributes := #[] }, { accessFlags := 25, nameIndex := 194, descriptorIndex := 69, attributes := #[] }, { accessFlags := 25, nameIndex := 196, descriptorIndex := 69, attributes := #[] }, { accessFlags := 26, nameIndex := 198, descriptorIndex := 69, attributes := #[] }, { accessFlags := 26, nameIndex := 199, descriptorIndex := 69, attributes := #[] }, { accessFlags := 26, nameIndex := 200, descriptorIndex := 69, attributes := #[] }, { accessFlags := 26, nameIndex := 201, descriptorIndex := 69, attributes := #[] }, { accessFlags := 26, nameIndex := 203, descriptorIndex := 69, attributes := #[] }, { accessFlags := 26, nameIndex := 205, descriptorIndex := 69, attributes := #[] }, { accessFlags := 26, nameIndex := 207, descriptorIndex := 69, attributes := #[] }, { accessFlags := 2, nameIndex := 68, descriptorIndex := 69, attributes := #[] }, { accessFlags := 2, nameIndex := 72, descriptorIndex := 69, attributes := #[] }, { accessFlags := 2, nameIndex := 75, descriptorIndex := 69, attributes := #[] }, { accessFlags := 2, nameIndex := 78, descriptorIndex := 69, attributes := #[] }, { accessFlags := 2, nameIndex := 81, descriptorIndex := 69, attributes := #[] }, { accessFlags := 2, nameIndex := 11, descriptorIndex := 12, attributes := #[] }, { accessFlags := 2, nameIndex := 15, descriptorIndex := 12, attributes := #[] }, { accessFlags := 2, nameIndex := 18, descriptorIndex := 12, attributes := #[] }, { accessFlags := 2, nameIndex := 21, descriptorIndex := 12, attributes := #[] }, { accessFlags := 2, nameIndex := 24, descriptorIndex := 12, attributes := #[] }, { accessFlags := 2, nameIndex := 27, descriptorIndex := 28, attributes := #[] }, { accessFlags := 2, nameIndex := 31, descriptorIndex := 12, attributes := #[] }, { accessFlags := 2, nameIndex := 34, descriptorIndex := 28, attributes := #[] }, { accessFlags := 2, nameIndex := 37, descriptorIndex := 12, attributes := #[] }, { accessFlags := 2, nameIndex := 40, descriptorIndex := 28, attributes := #[] }, { accessFlags := 2, nameIndex := 43, descriptorIndex := 12, attributes := #[] }, { accessFlags := 2, nameIndex := 46, descriptorIndex := 12, attributes := #[] }, { accessFlags := 2, nameIndex := 49, descriptorIndex := 12, attributes := #[] }, { accessFlags := 2, nameIndex := 84, descriptorIndex := 69, attributes := #[] }, { accessFlags := 2, nameIndex := 87, descriptorIndex := 69, attributes := #[] }, { accessFlags := 2, nameIndex := 90, descriptorIndex := 69, attributes := #[] }, { accessFlags := 2, nameIndex := 52, descriptorIndex := 12, attributes := #[] }, { accessFlags := 2, nameIndex := 55, descriptorIndex := 12, attributes := #[] }, { accessFlags := 2, nameIndex := 58, descriptorIndex := 12, attributes := #[] }, { accessFlags := 2, nameIndex := 61, descriptorIndex := 12, attributes := #[] }, { accessFlags := 2, nameIndex := 93, descriptorIndex := 69, attributes := #[] }, { accessFlags := 2, nameIndex := 96, descriptorIndex := 69, attributes := #[] }])
  fields := #[{ name := "OK", type := .int, accessFlags := 25, slot := 0, constantValue := 0 }, { name := "ERR_SLOT", type := .int, accessFlags := 25, slot := 1, constantValue := 0 }, { name := "ERR_STATE", type := .int, accessFlags := 25, slot := 2, constantValue := 0 }, { name := "ERR_KEY", type := .int, accessFlags := 25, slot := 3, constantValue := 0 }, { name := "ERR_FULL", type := .int, accessFlags := 25, slot := 4, constantValue := 0 }, { name := "REC_BEGIN", type := .int, accessFlags := 25, slot := 5, constantValue := 0 }, { name := "REC_PUT", type := .int, accessFlags := 25, slot := 6, constantValue := 0 }, { name := "REC_DEL", type := .int, accessFlags := 25, slot := 7, constantValue := 0 }, { name := "REC_COMMIT", type := .int, accessFlags := 25, slot := 8, constantValue := 0 }, { name := "REC_ABORT", type := .int, accessFlags := 25, slot := 9, constantValue := 0 }, { name := "ABSENT", type := .long, accessFlags := 25, slot := 10, constantValue := 0 }, { name := "DELETED", type := .long, accessFlags := 25, slot := 11, constantValue := 0 }, { name := "NO_CHANGE", type := .long, accessFlags := 25, slot := 12, constantValue := 0 }, { name := "INFO_LOG_LENGTH", type := .int, accessFlags := 25, slot := 13, constantValue := 0 }, { name := "INFO_OPEN", type := .int, accessFlags := 25, slot := 14, constantValue := 0 }, { name := "INFO_EMITTED", type := .int, accessFlags := 25, slot := 15, constantValue := 0 }, { name := "INFO_QUEUED", type := .int, accessFlags := 25, slot := 16, constantValue := 0 }, { name := "INFO_APPLIED", type := .int, accessFlags := 25, slot := 17, constantValue := 0 }, { name := "INFO_CONFIRMED", type := .int, accessFlags := 25, slot := 18, constantValue := 0 }, { name := "INFO_PUB_ROWS", type := .int, accessFlags := 25, slot := 19, constantValue := 0 }, { name := "INFO_SUB_ROWS", type := .int, accessFlags := 25, slot := 20, constantValue := 0 }, { name := "PEND_NONE", type := .int, accessFlags := 26, slot := 21, constantValue := 0 }, { name := "PEND_PUT", type := .int, accessFlags := 26, slot := 22, constantValue := 0 }, { name := "PEND_DEL", type := .int, accessFlags := 26, slot := 23, constantValue := 0 }, { name := "LOG_SLOTS", type := .int, accessFlags := 26, slot := 24, constantValue := 0 }, { name := "QUEUE_CAP", type := .int, accessFlags := 26, slot := 25, constantValue := 0 }, { name := "MAX_KEYS", type := .int, accessFlags := 26, slot := 26, constantValue := 0 }, { name := "MAX_SLOTS", type := .int, accessFlags := 26, slot := 27, constantValue := 0 }, { name := "nKeys", type := .int, accessFlags := 2, slot := 0, constantValue := 0 }, { name := "nSlots", type := .int, accessFlags := 2, slot := 1, constantValue := 0 }, { name := "logCap", type := .int, accessFlags := 2, slot := 2, constantValue := 0 }, { name := "memCap", type := .int, accessFlags := 2, slot := 3, constantValue := 0 }, { name := "length", type := .int, accessFlags := 2, slot := 4, constantValue := 0 }, { name := "recKind", type := (.array .int), accessFlags := 2, slot := 5, constantValue := 0 }, { name := "recSlot", type := (.array .int), accessFlags := 2, slot := 6, constantValue := 0 }, { name := "recKey", type := (.array .int), accessFlags := 2, slot := 7, constantValue := 0 }, { name := "recVal", type := (.array .int), accessFlags := 2, slot := 8, constantValue := 0 }, { name := "recBegin", type := (.array .int), accessFlags := 2, slot := 9, constantValue := 0 }, { name := "slotOpen", type := (.array .boolean), accessFlags := 2, slot := 10, constantValue := 0 }, { name := "slotBegin", type := (.array .int), accessFlags := 2, slot := 11, constantValue := 0 }, { name := "pubHas", type := (.array .boolean), accessFlags := 2, slot := 12, constantValue := 0 }, { name := "pubVal", type := (.array .int), accessFlags := 2, slot := 13, constantValue := 0 }, { name := "subHas", type := (.array .boolean), accessFlags := 2, slot := 14, constantValue := 0 }, { name := "subVal", type := (.array .int), accessFlags := 2, slot := 15, constantValue := 0 }, { name := "pendKind", type := (.array .int), accessFlags := 2, slot := 16, constantValue := 0 }, { name := "pendVal", type := (.array .int), accessFlags := 2, slot := 17, constantValue := 0 }, { name := "emittedPos", type := .int, accessFlags := 2, slot := 18, constantValue := 0 }, { name := "appliedPos", type := .int, accessFlags := 2, slot := 19, constantValue := 0 }, { name := "confirmedPos", type := .int, accessFlags := 2, slot := 20, constantValue := 0 }, { name := "qKind", type := (.array .int), accessFlags := 2, slot := 21, constantValue := 0 }, { name := "qKey", type := (.array .int), accessFlags := 2, slot := 22, constantValue := 0 }, { name := "qVal", type := (.array .int), accessFlags := 2, slot := 23, constantValue := 0 }, { name := "qPos", type := (.array .int), accessFlags := 2, slot := 24, constantValue := 0 }, { name := "qHead", type := .int, accessFlags := 2, slot := 25, constantValue := 0 }, { name := "qCount", type := .int, accessFlags := 2, slot := 26, constantValue := 0 }]
  methods := #[k2m0, k2m1, k2m2, k2m3, k2m4, k2m5, k2m6, k2m7, k2m8, k2m9, k2m10, k2m11, k2m12, k2m13, k2m14, k2m15, k2m16, k2m17, k2m18, k2m19, k2m20, k2m21, k2m22, k2m23, k2m24, k2m25, k2m26, k2m27, k2m28]
  instanceTypes := #[.int, .int, .int, .int, .int, (.array .int), (.array .int), (.array .int), (.array .int), (.array .int), (.array .boolean), (.array .int), (.array .boolean), (.array .int), (.array .boolean), (.array .int), (.array .int), (.array .int), .int, .int, .int, (.array .int), (.array .int), (.array .int), (.array .int), .int, .int]
  staticTypes := #[.int, .int, .int, .int, .int, .int, .int, .int, .int, .int, .long, .long, .long, .int, .int, .int, .int, .int, .int, .int, .int, .int, .int, .int, .int, .int, .int, .int]
  resolved := Array.replicate 231 none
  statics := none }

def pool3 : Array CpInfo := pool [(1, u "java/lang/Cloneable"), (0, .class_ 1), (0, u "java/lang/Object"), (0, .class_ 3)] 3

/-- java/lang/Cloneable -/
def k3 : Class := { plain "java/lang/Cloneable" (some 0) with
  accessFlags := 1537
  interfaces := #[]
  cf := some (fileOf pool3 2 #[] #[] 1537 4 #[] #[])
  fields := #[]
  methods := #[]
  instanceTypes := #[]
  staticTypes := #[]
  resolved := Array.replicate 8 none
  statics := none }

def pool4 : Array CpInfo := pool [(1, u "java/io/Serializable"), (0, .class_ 1), (0, u "java/lang/Object"), (0, .class_ 3)] 3

/-- java/io/Serializable -/
def k4 : Class := { plain "java/io/Serializable" (some 0) with
  accessFlags := 1537
  interfaces := #[]
  cf := some (fileOf pool4 2 #[] #[] 1537 4 #[] #[])
  fields := #[]
  methods := #[]
  instanceTypes := #[]
  staticTypes := #[]
  resolved := Array.replicate 8 none
  statics := none }

/-- the primitive boolean -/
def k5 : Class := { plain "boolean" none with kind := .primitive 'Z', accessFlags := 0x411 }
/-- [Z -/
def k6 : Class := { plain "[Z" (some 0) with kind := .array 5 .boolean, interfaces := #[3, 4], accessFlags := 1041 }

/-- the primitive byte -/
def k7 : Class := { plain "byte" none with kind := .primitive 'B', accessFlags := 0x411 }
/-- [B -/
def k8 : Class := { plain "[B" (some 0) with kind := .array 7 .byte, interfaces := #[3, 4], accessFlags := 1041 }

/-- the primitive int -/
def k9 : Class := { plain "int" none with kind := .primitive 'I', accessFlags := 0x411 }
/-- [I -/
def k10 : Class := { plain "[I" (some 0) with kind := .array 9 .int, interfaces := #[3, 4], accessFlags := 1041 }

def heap : Heap := #[{ cls := 10, slots := #[.int 0, .int 1, .int 2, .int 3, .int 6, .int 1, .int 0, .int 0], vm := .none }]
def classes : Array Class := #[k0, k1, k2, k3, k4, k5, k6, k7, k8, k9, k10]
def interned : List (Array UInt16 × Addr) := []
def slotsUsed : Nat := 8
def theMethod : MethodId := ⟨1, 3⟩
def args0 : Array Value := #[.ref 0]
def aboutOver (below : List Frame) : State where
  vm := { classes := classes, interned := interned.toArray }
  heap := heap
  slotsUsed := slotsUsed
  threads := #[{ frames := .invoking theMethod args0 :: below }]
def below0 : List Frame := [.native { method := ⟨0, 0⟩, args := #[] }]
def about1 : State := aboutOver below0
def p0 : Program := .bare "" "" ""
def e0 : Env := launch0.env 0 0 0
theorem w_frames : about1.frames = Frame.invoking theMethod args0 :: below0 := rfl
set_option maxRecDepth 65536 in
theorem w_args : argsFit about1.vm theMethod args0 = true := by decide +kernel
set_option maxRecDepth 65536 in
theorem w_heap : heapFits about1 = true := by decide +kernel
set_option maxRecDepth 65536 in
theorem w_runnable : about1.curStatus? = some .runnable := by decide +kernel
set_option maxRecDepth 65536 in
theorem w_alone : about1.alone = true := by decide +kernel
set_option maxRecDepth 65536 in
theorem w_named : about1.methodNamed? x = some theMethod := by decide +kernel
set_option maxRecDepth 65536 in
theorem w_hears : about1.hears theMethod below0 = true := by decide +kernel
set_option maxRecDepth 65536 in
theorem w_ripe : about1.ripe theMethod args0 below0 = true := by decide +kernel
theorem w_running : about1.status = .running := rfl
set_option maxRecDepth 65536 in
theorem w_room : about1.hasRoom e0.platform room_1 = true :=
  launch0.hasRoom_least _ room_1 (by decide +kernel) (by decide +kernel) (by decide +kernel) (by decide +kernel) (by decide +kernel) (by decide +kernel)
theorem allAtoms_all (ts : List Jvm.Cond) (a : Array Jvm.Value) (st : Jvm.State) : (allAtoms ts).before a st = ts.all (fun c => c.before a st) := by
  induction ts with
  | nil => rfl
  | cons c t ih =>
    show (Jvm.Cond.and c (allAtoms t)).before a st = _
    rw [Jvm.Cond.before_and, ih, List.all_cons]
def words1 : List Jvm.Cond := Jvm.Cond.code x code maxLocals ret :: tables_1
/-- a 'code' word, met by the world's own term for the bytes: nothing is compared byte by byte -/
theorem code_word {y : MethodName} {bytes : ByteArray} {mx : Nat} {rt : Option FieldType} {a : Array Value} {s : State} {m : MethodId} {meth : Method} {c : Code} (h1 : s.methodNamed? y = some m) (h2 : s.vm.method? m = some meth) (h3 : meth.code = some c) (h4 : c.code = bytes)
    (h5 : (c.maxLocals == mx && c.exceptionTable.isEmpty && decide (c.maxStack ≤ mostOperands) && decide (meth.sig.returnType = rt) && !meth.locks && decide (parseMethodDescriptor y.desc = some meth.sig)) = true) : (Jvm.Cond.code y bytes mx rt).before a s = true := by
  simp only [Bool.and_eq_true, beq_iff_eq, Bool.not_eq_true', decide_eq_true_eq] at h5
  obtain ⟨⟨⟨⟨⟨g1, g2⟩, g3⟩, g4⟩, g5⟩, g6⟩ := h5
  simp [Cond.before, Cond.holds, Cond.value, h1, h2, h3, h4, g1, g2, g3, g4, g5, g6]
def isCode : Jvm.Cond → Bool
  | .code _ _ _ _ => true
  | _ => false
theorem all_split {L : List Jvm.Cond} {P : Jvm.Cond → Bool} (h1 : L.all (fun c => isCode c || P c) = true) (h2 : ∀ c ∈ L.filter isCode, P c = true) : L.all P = true := by
  refine List.all_eq_true.mpr fun c hc => ?_
  have h := List.all_eq_true.mp h1 c hc
  rcases Bool.eq_false_or_eq_true (isCode c) with hi | hi
  · exact h2 c (List.mem_filter.mpr ⟨hc, hi⟩)
  · simpa [hi] using h
set_option maxRecDepth 65536 in
theorem w_c0 : (Jvm.Cond.code x code maxLocals ret).before args0 about1 = true := code_word (m := ⟨1, 3⟩) (meth := k1m3) (c := k1c3) (by decide +kernel) rfl rfl rfl (by decide +kernel)
set_option maxRecDepth 65536 in
theorem w_c1 : (Jvm.Cond.code ({ cls := "LogicalReplicator", name := "<init>", desc := "(IIII)V" } : Jvm.MethodName) prog_1_method_1_code (5 : Nat) (Option.none : Option Jvm.ClassFile.FieldType)).before args0 about1 = true := code_word (m := ⟨2, 0⟩) (meth := k2m0) (c := k2c0) (by decide +kernel) rfl rfl rfl (by decide +kernel)
set_option maxRecDepth 65536 in
theorem w_c2 : (Jvm.Cond.code ({ cls := "java/lang/Object", name := "<init>", desc := "()V" } : Jvm.MethodName) object_method_1_code (1 : Nat) (Option.none : Option Jvm.ClassFile.FieldType)).before args0 about1 = true := code_word (m := ⟨0, 0⟩) (meth := k0m0) (c := k0c0) (by decide +kernel) rfl rfl rfl (by decide +kernel)
set_option maxRecDepth 65536 in
theorem w_c3 : (Jvm.Cond.code ({ cls := "LogicalReplicator", name := "clamp", desc := "(III)I" } : Jvm.MethodName) prog_1_method_2_code (4 : Nat) (Option.some Jvm.ClassFile.FieldType.int)).before args0 about1 = true := code_word (m := ⟨2, 1⟩) (meth := k2m1) (c := k2c1) (by decide +kernel) rfl rfl rfl (by decide +kernel)
set_option maxRecDepth 65536 in
theorem w_c4 : (Jvm.Cond.code ({ cls := "LogicalReplicatorL6", name := "want", desc := "(IZZZ)I" } : Jvm.MethodName) method_3_code (4 : Nat) (Option.some Jvm.ClassFile.FieldType.int)).before args0 about1 = true := code_word (m := ⟨1, 2⟩) (meth := k1m2) (c := k1c2) (by decide +kernel) rfl rfl rfl (by decide +kernel)
set_option maxRecDepth 65536 in
theorem w_c5 : (Jvm.Cond.code ({ cls := "LogicalReplicator", name := "put", desc := "(III)I" } : Jvm.MethodName) prog_1_method_9_code (4 : Nat) (Option.some Jvm.ClassFile.FieldType.int)).before args0 about1 = true := code_word (m := ⟨2, 8⟩) (meth := k2m8) (c := k2c8) (by decide +kernel) rfl rfl rfl (by decide +kernel)
set_option maxRecDepth 65536 in
theorem w_c6 : (Jvm.Cond.code ({ cls := "LogicalReplicator", name := "write", desc := "(IIII)I" } : Jvm.MethodName) prog_1_method_11_code (6 : Nat) (Option.some Jvm.ClassFile.FieldType.int)).before args0 about1 = true := code_word (m := ⟨2, 10⟩) (meth := k2m10) (c := k2c10) (by decide +kernel) rfl rfl rfl (by decide +kernel)
set_option maxRecDepth 65536 in
theorem w_c7 : (Jvm.Cond.code ({ cls := "LogicalReplicator", name := "checkOpenSlot", desc := "(I)I" } : Jvm.MethodName) prog_1_method_6_code (2 : Nat) (Option.some Jvm.ClassFile.FieldType.int)).before args0 about1 = true := code_word (m := ⟨2, 5⟩) (meth := k2m5) (c := k2c5) (by decide +kernel) rfl rfl rfl (by decide +kernel)
set_option maxRecDepth 65536 in
theorem w_c8 : (Jvm.Cond.code ({ cls := "LogicalReplicator", name := "validSlot", desc := "(I)Z" } : Jvm.MethodName) prog_1_method_3_code (2 : Nat) (Option.some Jvm.ClassFile.FieldType.boolean)).before args0 about1 = true := code_word (m := ⟨2, 2⟩) (meth := k2m2) (c := k2c2) (by decide +kernel) rfl rfl rfl (by decide +kernel)
set_option maxRecDepth 65536 in
theorem w_c9 : (Jvm.Cond.code ({ cls := "LogicalReplicator", name := "info", desc := "(I)I" } : Jvm.MethodName) prog_1_method_31_code (2 : Nat) (Option.some Jvm.ClassFile.FieldType.int)).before args0 about1 = true := code_word (m := ⟨2, 27⟩) (meth := k2m27) (c := k2c27) (by decide +kernel) rfl rfl rfl (by decide +kernel)
set_option maxRecDepth 65536 in
theorem w_c10 : (Jvm.Cond.code ({ cls := "LogicalReplicator", name := "countOpen", desc := "()I" } : Jvm.MethodName) prog_1_method_32_code (3 : Nat) (Option.some Jvm.ClassFile.FieldType.int)).before args0 about1 = true := code_word (m := ⟨2, 28⟩) (meth := k2m28) (c := k2c28) (by decide +kernel) rfl rfl rfl (by decide +kernel)
set_option maxRecDepth 65536 in
theorem w_c11 : (Jvm.Cond.code ({ cls := "LogicalReplicator", name := "logRecord", desc := "(I)J" } : Jvm.MethodName) prog_1_method_30_code (6 : Nat) (Option.some Jvm.ClassFile.FieldType.long)).before args0 about1 = true := code_word (m := ⟨2, 26⟩) (meth := k2m26) (c := k2c26) (by decide +kernel) rfl rfl rfl (by decide +kernel)
set_option maxRecDepth 65536 in
theorem w_c12 : (Jvm.Cond.code ({ cls := "LogicalReplicator", name := "begin", desc := "(I)I" } : Jvm.MethodName) prog_1_method_8_code (3 : Nat) (Option.some Jvm.ClassFile.FieldType.int)).before args0 about1 = true := code_word (m := ⟨2, 7⟩) (meth := k2m7) (c := k2c7) (by decide +kernel) rfl rfl rfl (by decide +kernel)
set_option maxRecDepth 65536 in
theorem w_c13 : (Jvm.Cond.code ({ cls := "LogicalReplicator", name := "logFull", desc := "()Z" } : Jvm.MethodName) prog_1_method_5_code (1 : Nat) (Option.some Jvm.ClassFile.FieldType.boolean)).before args0 about1 = true := code_word (m := ⟨2, 4⟩) (meth := k2m4) (c := k2c4) (by decide +kernel) rfl rfl rfl (by decide +kernel)
set_option maxRecDepth 65536 in
theorem w_c14 : (Jvm.Cond.code ({ cls := "LogicalReplicator", name := "append", desc := "(IIII)I" } : Jvm.MethodName) prog_1_method_7_code (5 : Nat) (Option.some Jvm.ClassFile.FieldType.int)).before args0 about1 = true := code_word (m := ⟨2, 6⟩) (meth := k2m6) (c := k2c6) (by decide +kernel) rfl rfl rfl (by decide +kernel)
set_option maxRecDepth 65536 in
theorem w_c15 : (Jvm.Cond.code ({ cls := "LogicalReplicatorL6", name := "rec", desc := "(IIII)J" } : Jvm.MethodName) method_2_code (4 : Nat) (Option.some Jvm.ClassFile.FieldType.long)).before args0 about1 = true := code_word (m := ⟨1, 1⟩) (meth := k1m1) (c := k1c1) (by decide +kernel) rfl rfl rfl (by decide +kernel)
set_option maxRecDepth 65536 in
theorem w_c16 : (Jvm.Cond.code ({ cls := "LogicalReplicator", name := "validKey", desc := "(I)Z" } : Jvm.MethodName) prog_1_method_4_code (2 : Nat) (Option.some Jvm.ClassFile.FieldType.boolean)).before args0 about1 = true := code_word (m := ⟨2, 3⟩) (meth := k2m3) (c := k2c3) (by decide +kernel) rfl rfl rfl (by decide +kernel)
set_option maxRecDepth 65536 in
theorem w_c17 : (Jvm.Cond.code ({ cls := "LogicalReplicator", name := "stream", desc := "(I)I" } : Jvm.MethodName) prog_1_method_15_code (5 : Nat) (Option.some Jvm.ClassFile.FieldType.int)).before args0 about1 = true := code_word (m := ⟨2, 14⟩) (meth := k2m14) (c := k2c14) (by decide +kernel) rfl rfl rfl (by decide +kernel)
set_option maxRecDepth 65536 in
theorem w_c18 : (Jvm.Cond.code ({ cls := "LogicalReplicator", name := "nextCommit", desc := "(I)I" } : Jvm.MethodName) prog_1_method_16_code (4 : Nat) (Option.some Jvm.ClassFile.FieldType.int)).before args0 about1 = true := code_word (m := ⟨2, 15⟩) (meth := k2m15) (c := k2c15) (by decide +kernel) rfl rfl rfl (by decide +kernel)
set_option maxRecDepth 65536 in
theorem w_c19 : (Jvm.Cond.code ({ cls := "LogicalReplicator", name := "crashSubscriber", desc := "()V" } : Jvm.MethodName) prog_1_method_26_code (1 : Nat) (Option.none : Option Jvm.ClassFile.FieldType)).before args0 about1 = true := code_word (m := ⟨2, 25⟩) (meth := k2m25) (c := k2c25) (by decide +kernel) rfl rfl rfl (by decide +kernel)
set_option maxRecDepth 65536 in
theorem w_c20 : (Jvm.Cond.code ({ cls := "LogicalReplicator", name := "clearQueue", desc := "()V" } : Jvm.MethodName) prog_1_method_19_code (1 : Nat) (Option.none : Option Jvm.ClassFile.FieldType)).before args0 about1 = true := code_word (m := ⟨2, 18⟩) (meth := k2m18) (c := k2c18) (by decide +kernel) rfl rfl rfl (by decide +kernel)
set_option maxRecDepth 65536 in
theorem w_c21 : (Jvm.Cond.code ({ cls := "LogicalReplicator", name := "clearPending", desc := "()V" } : Jvm.MethodName) prog_1_method_23_code (2 : Nat) (Option.none : Option Jvm.ClassFile.FieldType)).before args0 about1 = true := code_word (m := ⟨2, 22⟩) (meth := k2m22) (c := k2c22) (by decide +kernel) rfl rfl rfl (by decide +kernel)
set_option maxRecDepth 65536 in
theorem w_c22 : (Jvm.Cond.code ({ cls := "LogicalReplicator", name := "abort", desc := "(I)I" } : Jvm.MethodName) prog_1_method_14_code (4 : Nat) (Option.some Jvm.ClassFile.FieldType.int)).before args0 about1 = true := code_word (m := ⟨2, 13⟩) (meth := k2m13) (c := k2c13) (by decide +kernel) rfl rfl rfl (by decide +kernel)
set_option maxRecDepth 65536 in
theorem w_c23 : (Jvm.Cond.code ({ cls := "LogicalReplicator", name := "crashPublisher", desc := "()V" } : Jvm.MethodName) prog_1_method_25_code (2 : Nat) (Option.none : Option Jvm.ClassFile.FieldType)).before args0 about1 = true := code_word (m := ⟨2, 24⟩) (meth := k2m24) (c := k2c24) (by decide +kernel) rfl rfl rfl (by decide +kernel)
set_option maxRecDepth 65536 in
theorem w_c24 : (Jvm.Cond.code ({ cls := "LogicalReplicator", name := "del", desc := "(II)I" } : Jvm.MethodName) prog_1_method_10_code (3 : Nat) (Option.some Jvm.ClassFile.FieldType.int)).before args0 about1 = true := code_word (m := ⟨2, 9⟩) (meth := k2m9) (c := k2c9) (by decide +kernel) rfl rfl rfl (by decide +kernel)
set_option maxRecDepth 65536 in
theorem w_c25 : (Jvm.Cond.code ({ cls := "LogicalReplicator", name := "apply", desc := "(I)I" } : Jvm.MethodName) prog_1_method_20_code (4 : Nat) (Option.some Jvm.ClassFile.FieldType.int)).before args0 about1 = true := code_word (m := ⟨2, 19⟩) (meth := k2m19) (c := k2c19) (by decide +kernel) rfl rfl rfl (by decide +kernel)
set_option maxRecDepth 65536 in
theorem w_c26 : (Jvm.Cond.code ({ cls := "LogicalReplicator", name := "commit", desc := "(I)I" } : Jvm.MethodName) prog_1_method_12_code (5 : Nat) (Option.some Jvm.ClassFile.FieldType.int)).before args0 about1 = true := code_word (m := ⟨2, 11⟩) (meth := k2m11) (c := k2c11) (by decide +kernel) rfl rfl rfl (by decide +kernel)
set_option maxRecDepth 65536 in
theorem w_c27 : (Jvm.Cond.code ({ cls := "LogicalReplicator", name := "feedback", desc := "()I" } : Jvm.MethodName) prog_1_method_24_code (1 : Nat) (Option.some Jvm.ClassFile.FieldType.int)).before args0 about1 = true := code_word (m := ⟨2, 23⟩) (meth := k2m23) (c := k2c23) (by decide +kernel) rfl rfl rfl (by decide +kernel)
set_option maxRecDepth 65536 in
theorem w_c28 : (Jvm.Cond.code ({ cls := "LogicalReplicator", name := "applyToPublisher", desc := "(III)V" } : Jvm.MethodName) prog_1_method_13_code (7 : Nat) (Option.none : Option Jvm.ClassFile.FieldType)).before args0 about1 = true := code_word (m := ⟨2, 12⟩) (meth := k2m12) (c := k2c12) (by decide +kernel) rfl rfl rfl (by decide +kernel)
set_option maxRecDepth 65536 in
theorem w_c29 : (Jvm.Cond.code ({ cls := "LogicalReplicator", name := "emitTransaction", desc := "(I)V" } : Jvm.MethodName) prog_1_method_17_code (6 : Nat) (Option.none : Option Jvm.ClassFile.FieldType)).before args0 about1 = true := code_word (m := ⟨2, 16⟩) (meth := k2m16) (c := k2c16) (by decide +kernel) rfl rfl rfl (by decide +kernel)
set_option maxRecDepth 65536 in
theorem w_c30 : (Jvm.Cond.code ({ cls := "LogicalReplicator", name := "enqueue", desc := "(IIII)V" } : Jvm.MethodName) prog_1_method_18_code (6 : Nat) (Option.none : Option Jvm.ClassFile.FieldType)).before args0 about1 = true := code_word (m := ⟨2, 17⟩) (meth := k2m17) (c := k2c17) (by decide +kernel) rfl rfl rfl (by decide +kernel)
set_option maxRecDepth 65536 in
theorem w_c31 : (Jvm.Cond.code ({ cls := "LogicalReplicator", name := "handleHead", desc := "()V" } : Jvm.MethodName) prog_1_method_21_code (6 : Nat) (Option.none : Option Jvm.ClassFile.FieldType)).before args0 about1 = true := code_word (m := ⟨2, 20⟩) (meth := k2m20) (c := k2c20) (by decide +kernel) rfl rfl rfl (by decide +kernel)
set_option maxRecDepth 65536 in
theorem w_c32 : (Jvm.Cond.code ({ cls := "LogicalReplicator", name := "applyPending", desc := "()V" } : Jvm.MethodName) prog_1_method_22_code (2 : Nat) (Option.none : Option Jvm.ClassFile.FieldType)).before args0 about1 = true := code_word (m := ⟨2, 21⟩) (meth := k2m21) (c := k2c21) (by decide +kernel) rfl rfl rfl (by decide +kernel)
def codes1 : List Jvm.Cond := [Jvm.Cond.code x code maxLocals ret, Jvm.Cond.code ({ cls := "LogicalReplicator", name := "<init>", desc := "(IIII)V" } : Jvm.MethodName) prog_1_method_1_code (5 : Nat) (Option.none : Option Jvm.ClassFile.FieldType), Jvm.Cond.code ({ cls := "java/lang/Object", name := "<init>", desc := "()V" } : Jvm.MethodName) object_method_1_code (1 : Nat) (Option.none : Option Jvm.ClassFile.FieldType), Jvm.Cond.code ({ cls := "LogicalReplicator", name := "clamp", desc := "(III)I" } : Jvm.MethodName) prog_1_method_2_code (4 : Nat) (Option.some Jvm.ClassFile.FieldType.int), Jvm.Cond.code ({ cls := "LogicalReplicatorL6", name := "want", desc := "(IZZZ)I" } : Jvm.MethodName) method_3_code (4 : Nat) (Option.some Jvm.ClassFile.FieldType.int), Jvm.Cond.code ({ cls := "LogicalReplicator", name := "put", desc := "(III)I" } : Jvm.MethodName) prog_1_method_9_code (4 : Nat) (Option.some Jvm.ClassFile.FieldType.int), Jvm.Cond.code ({ cls := "LogicalReplicator", name := "write", desc := "(IIII)I" } : Jvm.MethodName) prog_1_method_11_code (6 : Nat) (Option.some Jvm.ClassFile.FieldType.int), Jvm.Cond.code ({ cls := "LogicalReplicator", name := "checkOpenSlot", desc := "(I)I" } : Jvm.MethodName) prog_1_method_6_code (2 : Nat) (Option.some Jvm.ClassFile.FieldType.int), Jvm.Cond.code ({ cls := "LogicalReplicator", name := "validSlot", desc := "(I)Z" } : Jvm.MethodName) prog_1_method_3_code (2 : Nat) (Option.some Jvm.ClassFile.FieldType.boolean), Jvm.Cond.code ({ cls := "LogicalReplicator", name := "info", desc := "(I)I" } : Jvm.MethodName) prog_1_method_31_code (2 : Nat) (Option.some Jvm.ClassFile.FieldType.int), Jvm.Cond.code ({ cls := "LogicalReplicator", name := "countOpen", desc := "()I" } : Jvm.MethodName) prog_1_method_32_code (3 : Nat) (Option.some Jvm.ClassFile.FieldType.int), Jvm.Cond.code ({ cls := "LogicalReplicator", name := "logRecord", desc := "(I)J" } : Jvm.MethodName) prog_1_method_30_code (6 : Nat) (Option.some Jvm.ClassFile.FieldType.long), Jvm.Cond.code ({ cls := "LogicalReplicator", name := "begin", desc := "(I)I" } : Jvm.MethodName) prog_1_method_8_code (3 : Nat) (Option.some Jvm.ClassFile.FieldType.int), Jvm.Cond.code ({ cls := "LogicalReplicator", name := "logFull", desc := "()Z" } : Jvm.MethodName) prog_1_method_5_code (1 : Nat) (Option.some Jvm.ClassFile.FieldType.boolean), Jvm.Cond.code ({ cls := "LogicalReplicator", name := "append", desc := "(IIII)I" } : Jvm.MethodName) prog_1_method_7_code (5 : Nat) (Option.some Jvm.ClassFile.FieldType.int), Jvm.Cond.code ({ cls := "LogicalReplicatorL6", name := "rec", desc := "(IIII)J" } : Jvm.MethodName) method_2_code (4 : Nat) (Option.some Jvm.ClassFile.FieldType.long), Jvm.Cond.code ({ cls := "LogicalReplicator", name := "validKey", desc := "(I)Z" } : Jvm.MethodName) prog_1_method_4_code (2 : Nat) (Option.some Jvm.ClassFile.FieldType.boolean), Jvm.Cond.code ({ cls := "LogicalReplicator", name := "stream", desc := "(I)I" } : Jvm.MethodName) prog_1_method_15_code (5 : Nat) (Option.some Jvm.ClassFile.FieldType.int), Jvm.Cond.code ({ cls := "LogicalReplicator", name := "nextCommit", desc := "(I)I" } : Jvm.MethodName) prog_1_method_16_code (4 : Nat) (Option.some Jvm.ClassFile.FieldType.int), Jvm.Cond.code ({ cls := "LogicalReplicator", name := "crashSubscriber", desc := "()V" } : Jvm.MethodName) prog_1_method_26_code (1 : Nat) (Option.none : Option Jvm.ClassFile.FieldType), Jvm.Cond.code ({ cls := "LogicalReplicator", name := "clearQueue", desc := "()V" } : Jvm.MethodName) prog_1_method_19_code (1 : Nat) (Option.none : Option Jvm.ClassFile.FieldType), Jvm.Cond.code ({ cls := "LogicalReplicator", name := "clearPending", desc := "()V" } : Jvm.MethodName) prog_1_method_23_code (2 : Nat) (Option.none : Option Jvm.ClassFile.FieldType), Jvm.Cond.code ({ cls := "LogicalReplicator", name := "abort", desc := "(I)I" } : Jvm.MethodName) prog_1_method_14_code (4 : Nat) (Option.some Jvm.ClassFile.FieldType.int), Jvm.Cond.code ({ cls := "LogicalReplicator", name := "crashPublisher", desc := "()V" } : Jvm.MethodName) prog_1_method_25_code (2 : Nat) (Option.none : Option Jvm.ClassFile.FieldType), Jvm.Cond.code ({ cls := "LogicalReplicator", name := "del", desc := "(II)I" } : Jvm.MethodName) prog_1_method_10_code (3 : Nat) (Option.some Jvm.ClassFile.FieldType.int), Jvm.Cond.code ({ cls := "LogicalReplicator", name := "apply", desc := "(I)I" } : Jvm.MethodName) prog_1_method_20_code (4 : Nat) (Option.some Jvm.ClassFile.FieldType.int), Jvm.Cond.code ({ cls := "LogicalReplicator", name := "commit", desc := "(I)I" } : Jvm.MethodName) prog_1_method_12_code (5 : Nat) (Option.some Jvm.ClassFile.FieldType.int), Jvm.Cond.code ({ cls := "LogicalReplicator", name := "feedback", desc := "()I" } : Jvm.MethodName) prog_1_method_24_code (1 : Nat) (Option.some Jvm.ClassFile.FieldType.int), Jvm.Cond.code ({ cls := "LogicalReplicator", name := "applyToPublisher", desc := "(III)V" } : Jvm.MethodName) prog_1_method_13_code (7 : Nat) (Option.none : Option Jvm.ClassFile.FieldType), Jvm.Cond.code ({ cls := "LogicalReplicator", name := "emitTransaction", desc := "(I)V" } : Jvm.MethodName) prog_1_method_17_code (6 : Nat) (Option.none : Option Jvm.ClassFile.FieldType), Jvm.Cond.code ({ cls := "LogicalReplicator", name := "enqueue", desc := "(IIII)V" } : Jvm.MethodName) prog_1_method_18_code (6 : Nat) (Option.none : Option Jvm.ClassFile.FieldType), Jvm.Cond.code ({ cls := "LogicalReplicator", name := "handleHead", desc := "()V" } : Jvm.MethodName) prog_1_method_21_code (6 : Nat) (Option.none : Option Jvm.ClassFile.FieldType), Jvm.Cond.code ({ cls := "LogicalReplicator", name := "applyPending", desc := "()V" } : Jvm.MethodName) prog_1_method_22_code (2 : Nat) (Option.none : Option Jvm.ClassFile.FieldType)]
set_option maxRecDepth 65536 in
theorem codes_eq : words1.filter isCode = codes1 := rfl
theorem w_codes : ∀ c ∈ words1.filter isCode, c.before args0 about1 = true := by
  rw [codes_eq]
  intro c hc
  simp only [codes1, List.mem_cons, List.not_mem_nil, or_false] at hc
  rcases hc with rfl | rfl | rfl | rfl | rfl | rfl | rfl | rfl | rfl | rfl | rfl | rfl | rfl | rfl | rfl | rfl | rfl | rfl | rfl | rfl | rfl | rfl | rfl | rfl | rfl | rfl | rfl | rfl | rfl | rfl | rfl | rfl | rfl
  · exact w_c0
  · exact w_c1
  · exact w_c2
  · exact w_c3
  · exact w_c4
  · exact w_c5
  · exact w_c6
  · exact w_c7
  · exact w_c8
  · exact w_c9
  · exact w_c10
  · exact w_c11
  · exact w_c12
  · exact w_c13
  · exact w_c14
  · exact w_c15
  · exact w_c16
  · exact w_c17
  · exact w_c18
  · exact w_c19
  · exact w_c20
  · exact w_c21
  · exact w_c22
  · exact w_c23
  · exact w_c24
  · exact w_c25
  · exact w_c26
  · exact w_c27
  · exact w_c28
  · exact w_c29
  · exact w_c30
  · exact w_c31
  · exact w_c32
set_option maxRecDepth 65536 in
theorem w_t1 : (words1.take 24).all (fun c => isCode c || c.before args0 about1) = true := by decide +kernel
set_option maxRecDepth 65536 in
theorem w_t2 : ((words1.drop 24).take 24).all (fun c => isCode c || c.before args0 about1) = true := by decide +kernel
set_option maxRecDepth 65536 in
theorem w_t3 : (((words1.drop 24).drop 24).take 24).all (fun c => isCode c || c.before args0 about1) = true := by decide +kernel
set_option maxRecDepth 65536 in
theorem w_t4 : ((((words1.drop 24).drop 24).drop 24).take 24).all (fun c => isCode c || c.before args0 about1) = true := by decide +kernel
set_option maxRecDepth 65536 in
theorem w_t5 : (((((words1.drop 24).drop 24).drop 24).drop 24).take 24).all (fun c => isCode c || c.before args0 about1) = true := by decide +kernel
set_option maxRecDepth 65536 in
theorem w_t6 : ((((((words1.drop 24).drop 24).drop 24).drop 24).drop 24).take 24).all (fun c => isCode c || c.before args0 about1) = true := by decide +kernel
set_option maxRecDepth 65536 in
theorem w_t7 : (((((((words1.drop 24).drop 24).drop 24).drop 24).drop 24).drop 24).take 24).all (fun c => isCode c || c.before args0 about1) = true := by decide +kernel
set_option maxRecDepth 65536 in
theorem w_t8 : ((((((((words1.drop 24).drop 24).drop 24).drop 24).drop 24).drop 24).drop 24).take 24).all (fun c => isCode c || c.before args0 about1) = true := by decide +kernel
set_option maxRecDepth 65536 in
theorem w_t9 : ((((((((words1.drop 24).drop 24).drop 24).drop 24).drop 24).drop 24).drop 24).drop 24).all (fun c => isCode c || c.before args0 about1) = true := by decide +kernel
theorem w_tables : (allAtoms (Jvm.Cond.code x code maxLocals ret :: tables_1)).before args0 about1 = true := by
  rw [allAtoms_all]
  show words1.all (fun c => c.before args0 about1) = true
  refine all_split ?_ w_codes
  rw [← List.take_append_drop 24 words1, List.all_append, w_t1, ← List.take_append_drop 24 (words1.drop 24), List.all_append, w_t2, ← List.take_append_drop 24 ((words1.drop 24).drop 24), List.all_append, w_t3, ← List.take_append_drop 24 (((words1.drop 24).drop 24).drop 24), List.all_append, w_t4, ← List.take_append_drop 24 ((((words1.drop 24).drop 24).drop 24).drop 24), List.all_append, w_t5, ← List.take_append_drop 24 (((((words1.drop 24).drop 24).drop 24).drop 24).drop 24), List.all_append, w_t6, ← List.take_append_drop 24 ((((((words1.drop 24).drop 24).drop 24).drop 24).drop 24).drop 24), List.all_append, w_t7, ← List.take_append_drop 24 (((((((words1.drop 24).drop 24).drop 24).drop 24).drop 24).drop 24).drop 24), List.all_append, w_t8, w_t9]
  rfl
set_option maxRecDepth 65536 in
theorem w_rest : rest_1_c.before args0 about1 = true := by decide +kernel
set_option maxRecDepth 65536 in
theorem w_case : (Jvm.Cond.and given_1 narrow_1).before args0 about1 = true := by decide +kernel
theorem w_applies : (headSpec (Jvm.Cond.code x code maxLocals ret :: tables_1) room_1).applies x e0.platform about1 = true :=
  (Spec.applies_iff w_frames).mpr ⟨w_running, w_runnable, w_alone, w_named, w_hears, w_ripe, w_room, w_tables⟩
theorem atStart : AtStart classFile x code maxLocals ret World_1 tables_1 room_1 Calls_1 rest_1 Pre_1 launch0 p0 e0 about1 theMethod args0 below0 :=
  ⟨lists_1, trivial, launch0.admits_env _ _ _, launch0.least_env, fairChoices_fair.cas, fairChoices_fair.clock, w_frames, w_args, w_heap, w_applies, trivial, w_rest, w_case⟩
end start1
theorem witness_1 : WitnessClaimed_1 := ⟨start1.p0, start1.e0, start1.about1, start1.theMethod, start1.args0, start1.below0, start1.atStart⟩
end Jvm.Pilot.@@N@@
