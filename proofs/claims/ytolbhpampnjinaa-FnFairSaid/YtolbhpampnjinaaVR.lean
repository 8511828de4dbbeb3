/- The program's functions are those over data (part 2). No condition but those in each line. -/
import Derived.Test.YtolbhpampnjinaaVRa
namespace Go.Proofs.Ytolbhpampnjinaa.Ev
open Go Go.Proofs
set_option linter.unusedVariables false
set_option linter.unusedSimpArgs false
theorem c_s_l6Conf__L1 (x0 : GL1Cur) {r : GConf × GL1Cur} : ∀ (m : Nat) (vbox_0_63 : GL1Cur) (vbox_1_3 : GConf) (v4 : Int), p_s_l6Conf__L1 x0  m vbox_0_63 vbox_1_3 v4 = some r → SX Try.prog (R_s_l6Conf x0 r) (at_ [1, 1, 0, 1, 0] (bodyOf Try.f108) []) .normal (mkS [(0, .ptr (0, 63) 0 0), (2, .ptr (1, 1) 0 0), (3, .ptr (1, 3) 0 0), (4, il v4)] [((0, 63), ⟨true, true, true, 0, [(GL1Cur.enc vbox_0_63)]⟩), ((1, 2), ⟨false, true, true, 115, ((GConf.mk [] 0 0 0 0 0).masters).map GMConf.enc⟩), ((1, 1), ⟨true, true, true, 0, [[.sl (1, 2) 0 (((GConf.mk [] 0 0 0 0 0).masters).map GMConf.enc).length, il ((GConf.mk [] 0 0 0 0 0).quantum), il ((GConf.mk [] 0 0 0 0 0).maxWait), il ((GConf.mk [] 0 0 0 0 0).maxRetry), il ((GConf.mk [] 0 0 0 0 0).maxSplit), il ((GConf.mk [] 0 0 0 0 0).lockMost)]]⟩), ((1, 4), ⟨false, true, true, 115, vbox_1_3.masters.map GMConf.enc⟩), ((1, 3), ⟨true, true, true, 0, [[.sl (1, 4) 0 (vbox_1_3.masters.map GMConf.enc).length, il vbox_1_3.quantum, il vbox_1_3.maxWait, il vbox_1_3.maxRetry, il vbox_1_3.maxSplit, il vbox_1_3.lockMost]]⟩)] 1) := by
  intro m
  induction m with
  | zero => intro vbox_0_63 vbox_1_3 v4 h; cases h
  | succ m ih =>
    intro vbox_0_63 vbox_1_3 v4 h
    replace h : p_s_l6Conf__L1b x0  _ vbox_0_63 vbox_1_3 v4 = some r := h
    unfold p_s_l6Conf__L1b at h
    rcases ite_some h with ⟨g1, h⟩ | ⟨g1, h⟩
    · obtain ⟨r503, hr503, h⟩ := bnd_some h
      obtain ⟨z507, hz507, h⟩ := bnd_some h
      exact cutT [((1, 1), (1, 1)), ((1, 2), (1, 2)), ((1, 3), (1, 3)), ((1, 4), (3, 7168))] 11 [.t true, .res (il r503.1) [.agg [.tr (r503.2.b.map encU), il r503.2.i, il r503.2.h], .undef], .app ([(GMConf.mk (addW 1 r503.1) false 0 0)].map GMConf.enc) true (z507.map GMConf.enc) (z507.map GMConf.enc).length, .k, .num (((GConf.mk [] 0 0 0 0 0).masters).map GMConf.enc).length 0 0 [], .num (z507.map GMConf.enc).length 0 0 []] (aa g1 (aa (c_s_l1Below vbox_0_63 3 hr503) (aa (show 1 = ([(GMConf.mk (addW 1 r503.1) false 0 0)].map GMConf.enc).length from rfl) (aa (Eq.refl ([(GMConf.mk (addW 1 r503.1) false 0 0)].map GMConf.enc)) (aa (alr 4 GMConf.enc_len [(GMConf.mk (addW 1 r503.1) false 0 0)]) (aa (lene GMConf.enc vbox_1_3.masters) (aa (apl GMConf.enc hz507) (aa (apm GMConf.enc hz507) (aa (lene GMConf.enc z507) (aa (lene GMConf.enc ((GConf.mk [] 0 0 0 0 0).masters)) (aa (lene GMConf.enc z507) tt))))))))))) (ih _ _ _ h) (by kernel_rfl) (by kernel_rfl)
    · obtain ⟨r601, hr601, h⟩ := bnd_some h
      rcases ite_some h with ⟨g2, h⟩ | ⟨g2, h⟩
      · obtain ⟨r704, hr704, h⟩ := bnd_some h
        obtain ⟨a803, ha803, h⟩ := bnd_some h
        obtain ⟨y805, hy805, h⟩ := bnd_some h
        obtain ⟨r904, hr904, h⟩ := bnd_some h
        obtain ⟨r907, hr907, h⟩ := bnd_some h
        obtain ⟨a909, ha909, h⟩ := bnd_some h
        obtain ⟨y911, hy911, h⟩ := bnd_some h
        obtain ⟨r1004, hr1004, h⟩ := bnd_some h
        obtain ⟨a1006, ha1006, h⟩ := bnd_some h
        obtain ⟨y1008, hy1008, h⟩ := bnd_some h
        have e := Option.some.inj h; subst e
        exact retT 100000 [.t false, .res (bl r601.1) [.agg [.tr (r601.2.b.map encU), il r601.2.i, il r601.2.h], .undef], .t true, .num vbox_1_3.masters.length 0 0 [], .res (il r704.1) [.agg [.tr (r704.2.b.map encU), il r704.2.i, il r704.2.h], .undef], .row (r704.1 : Int).toNat (GMConf.enc a803), .put (GMConf.enc a803) (y805.map GMConf.enc), .k, .res (il r904) [.undef], .res (il r907.1) [.agg [.tr (r907.2.b.map encU), il r907.2.i, il r907.2.h], .undef], .row (r704.1 : Int).toNat (GMConf.enc a909), .put (GMConf.enc a909) (y911.map GMConf.enc), .res (il r1004.1) [.agg [.tr (r1004.2.b.map encU), il r1004.2.i, il r1004.2.h], .undef], .row (r704.1 : Int).toNat (GMConf.enc a1006), .put (GMConf.enc a1006) (y1008.map GMConf.enc), .k] (aa g1 (aa (c_s_l1Once vbox_0_63 2 hr601) (aa g2 (aa (lenr GMConf.enc vbox_1_3.masters) (aa (c_s_l1Below r601.2 (vbox_1_3.masters.length : Int) hr704) (aa (ixn ha803) (aa (ixl GMConf.enc ha803) (aa (ixr GMConf.enc ha803) (aa (ixr GMConf.enc ha803) (aa (seto GMConf.enc hy805) (aa (setl GMConf.enc hy805) (aa (c_s_SlotOf (GConf.mk y805 vbox_1_3.quantum vbox_1_3.maxWait vbox_1_3.maxRetry vbox_1_3.maxSplit vbox_1_3.lockMost) hr904) (aa (c_s_l1Below r704.2 30 hr907) (aa (ixn ha909) (aa (ixc GMConf.enc ha909 (setl GMConf.enc hy805)) (aa (ixr GMConf.enc ha909) (aa (ixr GMConf.enc ha909) (aa (seto GMConf.enc hy911) (aa (c_s_l1Below r907.2 4 hr1004) (aa (ixn ha1006) (aa (ixc GMConf.enc ha1006 ((setl GMConf.enc hy805).trans (setl GMConf.enc hy911))) (aa (ixr GMConf.enc ha1006) (aa (ixr GMConf.enc ha1006) (aa (seto GMConf.enc hy1008) (aa ((setl GMConf.enc hy805).trans ((setl GMConf.enc hy911).trans (setl GMConf.enc hy1008))) tt))))))))))))))))))))))))) (by kernel_rfl)
      · have e := Option.some.inj h; subst e
        exact retT 100000 [.t false, .res (bl r601.1) [.agg [.tr (r601.2.b.map encU), il r601.2.i, il r601.2.h], .undef], .t false, .k] (aa g1 (aa (c_s_l1Once vbox_0_63 2 hr601) (aa g2 (aa (lene GMConf.enc vbox_1_3.masters) tt)))) (by kernel_rfl)

theorem c_s_l6Conf (x0 : GL1Cur) {r : GConf × GL1Cur} (h : p_s_l6Conf x0 = some r) : Fine Try.prog Mo (108, [.agg [.tr (x0.b.map encU), il x0.i, il x0.h]], .agg [.own 115 (r.1.masters.map GMConf.enc), il r.1.quantum, il r.1.maxWait, il r.1.maxRetry, il r.1.maxSplit, il r.1.lockMost], [.agg [.tr (r.2.b.map encU), il r.2.i, il r.2.h]]) := by
  refine fineT Try.func108 rfl (by kernel_rfl) ?_
  unfold p_s_l6Conf at h
  obtain ⟨r101, hr101, h⟩ := bnd_some h
  obtain ⟨r104, hr104, h⟩ := bnd_some h
  obtain ⟨r106, hr106, h⟩ := bnd_some h
  obtain ⟨r108, hr108, h⟩ := bnd_some h
  obtain ⟨r111, hr111, h⟩ := bnd_some h
  obtain ⟨r201, hr201, h⟩ := bnd_some h
  exact cutT [((1, 1), (1, 0)), ((1, 3), (2, 14336))] 8 [.res (il r101.1) [.agg [.tr (r101.2.b.map encU), il r101.2.i, il r101.2.h], .undef], .res (il r104.1) [.agg [.tr (r104.2.b.map encU), il r104.2.i, il r104.2.h], .undef], .res (il r106.1) [.agg [.tr (r106.2.b.map encU), il r106.2.i, il r106.2.h], .undef], .res (il r108.1) [.agg [.tr (r108.2.b.map encU), il r108.2.i, il r108.2.h], .undef], .res (il r111.1) [.agg [.tr (r111.2.b.map encU), il r111.2.i, il r111.2.h], .undef], .res (il r201.1) [.agg [.tr (r201.2.b.map encU), il r201.2.i, il r201.2.h], .undef]] (aa (c_s_l1Below x0 3 hr101) (aa (c_s_l1Below r101.2 3 hr104) (aa (c_s_l1Below r104.2 3 hr106) (aa (c_s_l1Below r106.2 6 hr108) (aa (c_s_l1Below r108.2 12 hr111) (aa (c_s_l1Below r111.2 4 hr201) tt)))))) (c_s_l6Conf__L1 x0 _ _ _ _ h) (by kernel_rfl) (by kernel_rfl)

abbrev R_s_l1PickInt (x0 : GL1Cur) (x1 : List Int) (r : Int × GL1Cur) : Ex → St → Prop := RetC Try.prog Mo 111 Try.f111 [.agg [.tr (x0.b.map encU), il x0.i, il x0.h], .own 3 (x1.map encI)] (il r.1, [.agg [.tr (r.2.b.map encU), il r.2.i, il r.2.h], .undef])

theorem c_s_l1PickInt (x0 : GL1Cur) (x1 : List Int) {r : Int × GL1Cur} (h : p_s_l1PickInt x0 x1 = some r) : Fine Try.prog Mo (111, [.agg [.tr (x0.b.map encU), il x0.i, il x0.h], .own 3 (x1.map encI)], il r.1, [.agg [.tr (r.2.b.map encU), il r.2.i, il r.2.h], .undef]) := by
  refine fineT Try.func111 rfl (by kernel_rfl) ?_
  unfold p_s_l1PickInt at h
  obtain ⟨r104, hr104, h⟩ := bnd_some h
  obtain ⟨a105, ha105, h⟩ := bnd_some h
  have e := Option.some.inj h; subst e
  exact retT 100000 [.num x1.length 0 0 [], .res (il r104.1) [.agg [.tr (r104.2.b.map encU), il r104.2.i, il r104.2.h], .undef], .row (r104.1 : Int).toNat (encI a105), .cell (encI a105)] (aa (lenr encI x1) (aa (c_s_l1Below x0 (x1.length : Int) hr104) (aa (ixn ha105) (aa (ixl encI ha105) (aa (ixr encI ha105) (aa (ixr encI ha105) tt)))))) (by kernel_rfl)

abbrev R_s_l6Any (x0 : GL1Cur) (r : GConf × GL1Cur) : Ex → St → Prop := RetC Try.prog Mo 110 Try.f110 [.agg [.tr (x0.b.map encU), il x0.i, il x0.h]] (.agg [.own 115 (r.1.masters.map GMConf.enc), il r.1.quantum, il r.1.maxWait, il r.1.maxRetry, il r.1.maxSplit, il r.1.lockMost], [.agg [.tr (r.2.b.map encU), il r.2.i, il r.2.h]])

theorem c_s_l6Any (x0 : GL1Cur) {r : GConf × GL1Cur} (h : p_s_l6Any x0 = some r) : Fine Try.prog Mo (110, [.agg [.tr (x0.b.map encU), il x0.i, il x0.h]], .agg [.own 115 (r.1.masters.map GMConf.enc), il r.1.quantum, il r.1.maxWait, il r.1.maxRetry, il r.1.maxSplit, il r.1.lockMost], [.agg [.tr (r.2.b.map encU), il r.2.i, il r.2.h]]) := by
  refine fineT Try.func110 rfl (by kernel_rfl) ?_
  unfold p_s_l6Any at h
  obtain ⟨r101, hr101, h⟩ := bnd_some h
  obtain ⟨r201, hr201, h⟩ := bnd_some h
  rcases ite_some h with ⟨g1, h⟩ | ⟨g1, h⟩
  · obtain ⟨r404, hr404, h⟩ := bnd_some h
    obtain ⟨a405, ha405, h⟩ := bnd_some h
    obtain ⟨y407, hy407, h⟩ := bnd_some h
    have e := Option.some.inj h; subst e
    exact retT 100000 [.res (.agg [.own 115 (r101.1.masters.map GMConf.enc), il r101.1.quantum, il r101.1.maxWait, il r101.1.maxRetry, il r101.1.maxSplit, il r101.1.lockMost]) [.agg [.tr (r101.2.b.map encU), il r101.2.i, il r101.2.h]], .res (il r201.1) [.agg [.tr (r201.2.b.map encU), il r201.2.i, il r201.2.h], .undef], .t true, .k, .res (il r404.1) [.agg [.tr (r404.2.b.map encU), il r404.2.i, il r404.2.h], .undef], .row (0 : Int).toNat (GMConf.enc a405), .put (GMConf.enc a405) (y407.map GMConf.enc), .k] (aa (c_s_l6Conf x0 hr101) (aa (c_s_l1Below r101.2 14 hr201) (aa g1 (aa (show 2 = ([0, 5].map encI).length from rfl) (aa (c_s_l1PickInt r201.2 [0, 5] hr404) (aa (ixn ha405) (aa (ixl GMConf.enc ha405) (aa (ixr GMConf.enc ha405) (aa (ixr GMConf.enc ha405) (aa (seto GMConf.enc hy407) (aa (setl GMConf.enc hy407) tt))))))))))) (by kernel_rfl)
  · rcases ite_some h with ⟨g2, h⟩ | ⟨g2, h⟩
    · obtain ⟨a604, ha604, h⟩ := bnd_some h
      obtain ⟨y610, hy610, h⟩ := bnd_some h
      have e := Option.some.inj h; subst e
      exact retT 100000 [.res (.agg [.own 115 (r101.1.masters.map GMConf.enc), il r101.1.quantum, il r101.1.maxWait, il r101.1.maxRetry, il r101.1.maxSplit, il r101.1.lockMost]) [.agg [.tr (r101.2.b.map encU), il r101.2.i, il r101.2.h]], .res (il r201.1) [.agg [.tr (r201.2.b.map encU), il r201.2.i, il r201.2.h], .undef], .t false, .t true, .row (0 : Int).toNat (GMConf.enc a604), .cell (GMConf.enc a604), .row (0 : Int).toNat (GMConf.enc a604), .put (GMConf.enc a604) (y610.map GMConf.enc), .k] (aa (c_s_l6Conf x0 hr101) (aa (c_s_l1Below r101.2 14 hr201) (aa g1 (aa g2 (aa (ixn ha604) (aa (ixl GMConf.enc ha604) (aa (ixr GMConf.enc ha604) (aa (ixr GMConf.enc ha604) (aa (ixn ha604) (aa (ixl GMConf.enc ha604) (aa (ixr GMConf.enc ha604) (aa (ixr GMConf.enc ha604) (aa (seto GMConf.enc hy610) (aa (setl GMConf.enc hy610) tt)))))))))))))) (by kernel_rfl)
    · rcases ite_some h with ⟨g3, h⟩ | ⟨g3, h⟩
      · obtain ⟨r802, hr802, h⟩ := bnd_some h
        have e := Option.some.inj h; subst e
        exact retT 100000 [.res (.agg [.own 115 (r101.1.masters.map GMConf.enc), il r101.1.quantum, il r101.1.maxWait, il r101.1.maxRetry, il r101.1.maxSplit, il r101.1.lockMost]) [.agg [.tr (r101.2.b.map encU), il r101.2.i, il r101.2.h]], .res (il r201.1) [.agg [.tr (r201.2.b.map encU), il r201.2.i, il r201.2.h], .undef], .t false, .t false, .t true, .k, .res (il r802.1) [.agg [.tr (r802.2.b.map encU), il r802.2.i, il r802.2.h], .undef], .k] (aa (c_s_l6Conf x0 hr101) (aa (c_s_l1Below r101.2 14 hr201) (aa g1 (aa g2 (aa g3 (aa (show 3 = ([0, 5, 4].map encI).length from rfl) (aa (c_s_l1PickInt r201.2 [0, 5, 4] hr802) (aa (lene GMConf.enc r101.1.masters) tt)))))))) (by kernel_rfl)
      · rcases ite_some h with ⟨g4, h⟩ | ⟨g4, h⟩
        · obtain ⟨r1002, hr1002, h⟩ := bnd_some h
          have e := Option.some.inj h; subst e
          exact retT 100000 [.res (.agg [.own 115 (r101.1.masters.map GMConf.enc), il r101.1.quantum, il r101.1.maxWait, il r101.1.maxRetry, il r101.1.maxSplit, il r101.1.lockMost]) [.agg [.tr (r101.2.b.map encU), il r101.2.i, il r101.2.h]], .res (il r201.1) [.agg [.tr (r201.2.b.map encU), il r201.2.i, il r201.2.h], .undef], .t false, .t false, .t false, .t true, .k, .res (il r1002.1) [.agg [.tr (r1002.2.b.map encU), il r1002.2.i, il r1002.2.h], .undef], .k] (aa (c_s_l6Conf x0 hr101) (aa (c_s_l1Below r101.2 14 hr201) (aa g1 (aa g2 (aa g3 (aa g4 (aa (show 3 = ([(-1), 4, 3].map encI).length from rfl) (aa (c_s_l1PickInt r201.2 [(-1), 4, 3] hr1002) (aa (lene GMConf.enc r101.1.masters) tt))))))))) (by kernel_rfl)
        · rcases ite_some h with ⟨g5, h⟩ | ⟨g5, h⟩
          · obtain ⟨r1202, hr1202, h⟩ := bnd_some h
            have e := Option.some.inj h; subst e
            exact retT 100000 [.res (.agg [.own 115 (r101.1.masters.map GMConf.enc), il r101.1.quantum, il r101.1.maxWait, il r101.1.maxRetry, il r101.1.maxSplit, il r101.1.lockMost]) [.agg [.tr (r101.2.b.map encU), il r101.2.i, il r101.2.h]], .res (il r201.1) [.agg [.tr (r201.2.b.map encU), il r201.2.i, il r201.2.h], .undef], .t false, .t false, .t false, .t false, .t true, .k, .res (il r1202.1) [.agg [.tr (r1202.2.b.map encU), il r1202.2.i, il r1202.2.h], .undef], .k] (aa (c_s_l6Conf x0 hr101) (aa (c_s_l1Below r101.2 14 hr201) (aa g1 (aa g2 (aa g3 (aa g4 (aa g5 (aa (show 2 = ([0, 13].map encI).length from rfl) (aa (c_s_l1PickInt r201.2 [0, 13] hr1202) (aa (lene GMConf.enc r101.1.masters) tt)))))))))) (by kernel_rfl)
          · rcases ite_some h with ⟨g6, h⟩ | ⟨g6, h⟩
            · have e := Option.some.inj h; subst e
              exact retT 100000 [.res (.agg [.own 115 (r101.1.masters.map GMConf.enc), il r101.1.quantum, il r101.1.maxWait, il r101.1.maxRetry, il r101.1.maxSplit, il r101.1.lockMost]) [.agg [.tr (r101.2.b.map encU), il r101.2.i, il r101.2.h]], .res (il r201.1) [.agg [.tr (r201.2.b.map encU), il r201.2.i, il r201.2.h], .undef], .t false, .t false, .t false, .t false, .t false, .t true, .k] (aa (c_s_l6Conf x0 hr101) (aa (c_s_l1Below r101.2 14 hr201) (aa g1 (aa g2 (aa g3 (aa g4 (aa g5 (aa g6 (aa (show 0 = ([].map GMConf.enc).length from rfl) tt))))))))) (by kernel_rfl)
            · rcases ite_some h with ⟨g7, h⟩ | ⟨g7, h⟩
              · obtain ⟨r1602, hr1602, h⟩ := bnd_some h
                have e := Option.some.inj h; subst e
                exact retT 100000 [.res (.agg [.own 115 (r101.1.masters.map GMConf.enc), il r101.1.quantum, il r101.1.maxWait, il r101.1.maxRetry, il r101.1.maxSplit, il r101.1.lockMost]) [.agg [.tr (r101.2.b.map encU), il r101.2.i, il r101.2.h]], .res (il r201.1) [.agg [.tr (r201.2.b.map encU), il r201.2.i, il r201.2.h], .undef], .t false, .t false, .t false, .t false, .t false, .t false, .t true, .k, .res (il r1602.1) [.agg [.tr (r1602.2.b.map encU), il r1602.2.i, il r1602.2.h], .undef], .k] (aa (c_s_l6Conf x0 hr101) (aa (c_s_l1Below r101.2 14 hr201) (aa g1 (aa g2 (aa g3 (aa g4 (aa g5 (aa g6 (aa g7 (aa (show 3 = ([(-1), 4, 3].map encI).length from rfl) (aa (c_s_l1PickInt r201.2 [(-1), 4, 3] hr1602) (aa (lene GMConf.enc r101.1.masters) tt)))))))))))) (by kernel_rfl)
              · have e := Option.some.inj h; subst e
                exact retT 100000 [.res (.agg [.own 115 (r101.1.masters.map GMConf.enc), il r101.1.quantum, il r101.1.maxWait, il r101.1.maxRetry, il r101.1.maxSplit, il r101.1.lockMost]) [.agg [.tr (r101.2.b.map encU), il r101.2.i, il r101.2.h]], .res (il r201.1) [.agg [.tr (r201.2.b.map encU), il r201.2.i, il r201.2.h], .undef], .t false, .t false, .t false, .t false, .t false, .t false, .t false, .k] (aa (c_s_l6Conf x0 hr101) (aa (c_s_l1Below r101.2 14 hr201) (aa g1 (aa g2 (aa g3 (aa g4 (aa g5 (aa g6 (aa g7 (aa (lene GMConf.enc r101.1.masters) tt)))))))))) (by kernel_rfl)

abbrev R_s_l11Draw (x0 : GL1Cur) (r : GWrr × GConf × GL1Cur) : Ex → St → Prop := RetC Try.prog Mo 96 Try.f96 [.agg [.tr (x0.b.map encU), il x0.i, il x0.h]] (.tup [.agg (GWrr.enc r.1), .agg [.own 115 (r.2.1.masters.map GMConf.enc), il r.2.1.quantum, il r.2.1.maxWait, il r.2.1.maxRetry, il r.2.1.maxSplit, il r.2.1.lockMost]], [.agg [.tr (r.2.2.b.map encU), il r.2.2.i, il r.2.2.h]])

theorem c_s_l11Draw__J1 (x0 : GL1Cur) {r : GWrr × GConf × GL1Cur} (vbox_0_63 : GL1Cur) (vbox_1_4 : GConf) (h : p_s_l11Draw__J1 x0  vbox_0_63 vbox_1_4 = some r) : SX Try.prog (R_s_l11Draw x0 r) (at_ [1, 1, 1] (bodyOf Try.f96) []) .normal (mkS [(0, .ptr (0, 63) 0 0), (2, .ptr (1, 1) 0 0), (3, .ptr (1, 2) 0 0), (4, .ptr (1, 4) 0 0)] [((0, 63), ⟨true, true, true, 0, [(GL1Cur.enc vbox_0_63)]⟩), ((1, 1), ⟨true, true, true, 0, [(GWrr.enc (GWrr.mk 0 0))]⟩), ((1, 3), ⟨false, true, true, 115, ((GConf.mk [] 0 0 0 0 0).masters).map GMConf.enc⟩), ((1, 2), ⟨true, true, true, 0, [[.sl (1, 3) 0 (((GConf.mk [] 0 0 0 0 0).masters).map GMConf.enc).length, il ((GConf.mk [] 0 0 0 0 0).quantum), il ((GConf.mk [] 0 0 0 0 0).maxWait), il ((GConf.mk [] 0 0 0 0 0).maxRetry), il ((GConf.mk [] 0 0 0 0 0).maxSplit), il ((GConf.mk [] 0 0 0 0 0).lockMost)]]⟩), ((1, 5), ⟨false, true, true, 115, vbox_1_4.masters.map GMConf.enc⟩), ((1, 4), ⟨true, true, true, 0, [[.sl (1, 5) 0 (vbox_1_4.masters.map GMConf.enc).length, il vbox_1_4.quantum, il vbox_1_4.maxWait, il vbox_1_4.maxRetry, il vbox_1_4.maxSplit, il vbox_1_4.lockMost]]⟩)] 1) := by
  unfold p_s_l11Draw__J1 at h
  obtain ⟨r405, hr405, h⟩ := bnd_some h
  obtain ⟨r504, hr504, h⟩ := bnd_some h
  obtain ⟨r506, hr506, h⟩ := bnd_some h
  obtain ⟨r601, hr601, h⟩ := bnd_some h
  rcases ite_some h with ⟨g1, h⟩ | ⟨g1, h⟩
  · obtain ⟨r802, hr802, h⟩ := bnd_some h
    have e := Option.some.inj h; subst e
    exact retT 100000 [.num vbox_1_4.masters.length 0 0 [], .res (il r405.1) [.agg [.tr (r405.2.b.map encU), il r405.2.i, il r405.2.h], .undef], .k, .res (il r504) [.undef, .undef], .res (il r506.1) [.agg [.tr (r506.2.b.map encU), il r506.2.i, il r506.2.h], .undef], .res (il r601.1) [.agg [.tr (r601.2.b.map encU), il r601.2.i, il r601.2.h], .undef], .t true, .k, .res (il r802.1) [.agg [.tr (r802.2.b.map encU), il r802.2.i, il r802.2.h], .undef], .k] (aa (lenr GMConf.enc vbox_1_4.masters) (aa (c_s_l1Below vbox_0_63 (maxI 1 (vbox_1_4.masters.length : Int)) hr405) (aa (lene GMConf.enc vbox_1_4.masters) (aa (c_s_TurnOf vbox_1_4 r405.1 hr504) (aa (c_s_l1Below r405.2 (addW r504 1) hr506) (aa (c_s_l1Below r506.2 14 hr601) (aa g1 (aa (show 2 = ([(-1), 4].map encI).length from rfl) (aa (c_s_l1PickInt r601.2 [(-1), 4] hr802) (aa (lene GMConf.enc vbox_1_4.masters) tt)))))))))) (by kernel_rfl)
  · rcases ite_some h with ⟨g2, h⟩ | ⟨g2, h⟩
    · obtain ⟨r1002, hr1002, h⟩ := bnd_some h
      have e := Option.some.inj h; subst e
      exact retT 100000 [.num vbox_1_4.masters.length 0 0 [], .res (il r405.1) [.agg [.tr (r405.2.b.map encU), il r405.2.i, il r405.2.h], .undef], .k, .res (il r504) [.undef, .undef], .res (il r506.1) [.agg [.tr (r506.2.b.map encU), il r506.2.i, il r506.2.h], .undef], .res (il r601.1) [.agg [.tr (r601.2.b.map encU), il r601.2.i, il r601.2.h], .undef], .t false, .t true, .k, .res (il r1002.1) [.agg [.tr (r1002.2.b.map encU), il r1002.2.i, il r1002.2.h], .undef], .k] (aa (lenr GMConf.enc vbox_1_4.masters) (aa (c_s_l1Below vbox_0_63 (maxI 1 (vbox_1_4.masters.length : Int)) hr405) (aa (lene GMConf.enc vbox_1_4.masters) (aa (c_s_TurnOf vbox_1_4 r405.1 hr504) (aa (c_s_l1Below r405.2 (addW r504 1) hr506) (aa (c_s_l1Below r506.2 14 hr601) (aa g1 (aa g2 (aa (show 2 = ([(-1), 17].map encI).length from rfl) (aa (c_s_l1PickInt r601.2 [(-1), 17] hr1002) (aa (lene GMConf.enc vbox_1_4.masters) tt))))))))))) (by kernel_rfl)
    · have e := Option.some.inj h; subst e
      exact retT 100000 [.num vbox_1_4.masters.length 0 0 [], .res (il r405.1) [.agg [.tr (r405.2.b.map encU), il r405.2.i, il r405.2.h], .undef], .k, .res (il r504) [.undef, .undef], .res (il r506.1) [.agg [.tr (r506.2.b.map encU), il r506.2.i, il r506.2.h], .undef], .res (il r601.1) [.agg [.tr (r601.2.b.map encU), il r601.2.i, il r601.2.h], .undef], .t false, .t false, .k] (aa (lenr GMConf.enc vbox_1_4.masters) (aa (c_s_l1Below vbox_0_63 (maxI 1 (vbox_1_4.masters.length : Int)) hr405) (aa (lene GMConf.enc vbox_1_4.masters) (aa (c_s_TurnOf vbox_1_4 r405.1 hr504) (aa (c_s_l1Below r405.2 (addW r504 1) hr506) (aa (c_s_l1Below r506.2 14 hr601) (aa g1 (aa g2 (aa (lene GMConf.enc vbox_1_4.masters) tt))))))))) (by kernel_rfl)

theorem c_s_l11Draw (x0 : GL1Cur) {r : GWrr × GConf × GL1Cur} (h : p_s_l11Draw x0 = some r) : Fine Try.prog Mo (96, [.agg [.tr (x0.b.map encU), il x0.i, il x0.h]], .tup [.agg (GWrr.enc r.1), .agg [.own 115 (r.2.1.masters.map GMConf.enc), il r.2.1.quantum, il r.2.1.maxWait, il r.2.1.maxRetry, il r.2.1.maxSplit, il r.2.1.lockMost]], [.agg [.tr (r.2.2.b.map encU), il r.2.2.i, il r.2.2.h]]) := by
  refine fineT Try.func96 rfl (by kernel_rfl) ?_
  unfold p_s_l11Draw at h
  obtain ⟨r101, hr101, h⟩ := bnd_some h
  obtain ⟨r201, hr201, h⟩ := bnd_some h
  rcases ite_some h with ⟨g1, h⟩ | ⟨g1, h⟩
  · obtain ⟨r301, hr301, h⟩ := bnd_some h
    exact cutT [((1, 1), (1, 0)), ((1, 2), (1, 1024)), ((1, 4), (2, 2048)), ((1, 5), (4, 1024))] 9 [.res (.agg [.own 115 (r101.1.masters.map GMConf.enc), il r101.1.quantum, il r101.1.maxWait, il r101.1.maxRetry, il r101.1.maxSplit, il r101.1.lockMost]) [.agg [.tr (r101.2.b.map encU), il r101.2.i, il r101.2.h]], .res (bl r201.1) [.agg [.tr (r201.2.b.map encU), il r201.2.i, il r201.2.h], .undef], .t true, .res (.agg [.own 115 (r301.1.masters.map GMConf.enc), il r301.1.quantum, il r301.1.maxWait, il r301.1.maxRetry, il r301.1.maxSplit, il r301.1.lockMost]) [.agg [.tr (r301.2.b.map encU), il r301.2.i, il r301.2.h]], .num (r301.1.masters.map GMConf.enc).length 0 0 []] (aa (c_s_l6Conf x0 hr101) (aa (c_s_l1Once r101.2 14 hr201) (aa g1 (aa (c_s_l6Any r201.2 hr301) (aa (lene GMConf.enc r301.1.masters) tt))))) (c_s_l11Draw__J1 x0 _ _ h) (by kernel_rfl) (by kernel_rfl)
  · exact cutT [((1, 1), (1, 0)), ((1, 2), (1, 1024)), ((1, 4), (2, 2048)), ((1, 5), (2, 1024))] 9 [.res (.agg [.own 115 (r101.1.masters.map GMConf.enc), il r101.1.quantum, il r101.1.maxWait, il r101.1.maxRetry, il r101.1.maxSplit, il r101.1.lockMost]) [.agg [.tr (r101.2.b.map encU), il r101.2.i, il r101.2.h]], .res (bl r201.1) [.agg [.tr (r201.2.b.map encU), il r201.2.i, il r201.2.h], .undef], .t false, .num (r101.1.masters.map GMConf.enc).length 0 0 []] (aa (c_s_l6Conf x0 hr101) (aa (c_s_l1Once r101.2 14 hr201) (aa g1 (aa (lene GMConf.enc r101.1.masters) tt)))) (c_s_l11Draw__J1 x0 _ _ h) (by kernel_rfl) (by kernel_rfl)

abbrev R_s_DrawWrrOk (x0 : List Int) (r : GWrr × GConf) : Ex → St → Prop := RetC Try.prog Mo 57 Try.f57 [.tr (x0.map encU)] (.tup [.agg (GWrr.enc r.1), .agg [.own 115 (r.2.masters.map GMConf.enc), il r.2.quantum, il r.2.maxWait, il r.2.maxRetry, il r.2.maxSplit, il r.2.lockMost]], [.undef])

theorem c_s_DrawWrrOk (x0 : List Int) {r : GWrr × GConf} (h : p_s_DrawWrrOk x0 = some r) : Fine Try.prog Mo (57, [.tr (x0.map encU)], .tup [.agg (GWrr.enc r.1), .agg [.own 115 (r.2.masters.map GMConf.enc), il r.2.quantum, il r.2.maxWait, il r.2.maxRetry, il r.2.maxSplit, il r.2.lockMost]], [.undef]) := by
  refine fineT Try.func57 rfl (by kernel_rfl) ?_
  unfold p_s_DrawWrrOk at h
  obtain ⟨r101, hr101, h⟩ := bnd_some h
  obtain ⟨r102, hr102, h⟩ := bnd_some h
  have e := Option.some.inj h; subst e
  exact retT 100000 [.res (.obx [.tr (r101.b.map encU), il r101.i, il r101.h]) [.undef], .res (.tup [.agg (GWrr.enc r102.1), .agg [.own 115 (r102.2.1.masters.map GMConf.enc), il r102.2.1.quantum, il r102.2.1.maxWait, il r102.2.1.maxRetry, il r102.2.1.maxSplit, il r102.2.1.lockMost]]) [.agg [.tr (r102.2.2.b.map encU), il r102.2.2.i, il r102.2.2.h]], .k] (aa (c_s_l1New x0 hr101) (aa (c_s_l11Draw r101 hr102) (aa (lene GMConf.enc r102.2.1.masters) tt))) (by kernel_rfl)

abbrev R_s_WrrOk (x0 : GWrr) (x1 : GConf) (r : Bool) : Ex → St → Prop := RetC Try.prog Mo 58 Try.f58 [.agg (GWrr.enc x0), .agg (GConf.enc x1)] (bl r, [.undef, .undef])

theorem c_s_WrrOk (x0 : GWrr) (x1 : GConf) {r : Bool} (h : p_s_WrrOk x0 x1 = some r) : Fine Try.prog Mo (58, [.agg (GWrr.enc x0), .agg (GConf.enc x1)], bl r, [.undef, .undef]) := by
  refine fineT Try.func58 rfl (by kernel_rfl) ?_
  unfold p_s_WrrOk at h
  obtain ⟨r101, hr101, h⟩ := bnd_some h
  rcases ite_some h with ⟨g1, h⟩ | ⟨g1, h⟩
  · obtain ⟨r109, hr109, h⟩ := bnd_some h
    rcases ite_some h with ⟨g2, h⟩ | ⟨g2, h⟩
    · obtain ⟨r117, hr117, h⟩ := bnd_some h
      obtain ⟨r118, hr118, h⟩ := bnd_some h
      have e := Option.some.inj h; subst e
      exact retT 100000 [.res (bl r101) [.undef], .t true, .k, .k, .k, .k, .num x1.masters.length 0 0 [], .k, .k, .res (bl r109) [.undef, .undef, .undef], .k, .t true, .k, .k, .k, .k, .k, .res (il r117) [.undef, .undef], .k, .res (bl r118) [.undef, .undef, .undef], .k] (aa (c_s_ConfOk x1 hr101) (aa g1 (aa (lenr GMConf.enc x1.masters) (aa (c_s_l1In x0.at_ 0 (subW (x1.masters.length : Int) 1) hr109) (aa g2 (aa (c_s_TurnOf x1 x0.at_ hr117) (aa (c_s_l1In x0.credit 0 r117 hr118) tt))))))) (by kernel_rfl)
    · have e := Option.some.inj h; subst e
      exact retT 100000 [.res (bl r101) [.undef], .t true, .k, .k, .k, .k, .num x1.masters.length 0 0 [], .k, .k, .res (bl r109) [.undef, .undef, .undef], .k, .t false, .k, .k, .k, .k, .k, .k, .k] (aa (c_s_ConfOk x1 hr101) (aa g1 (aa (lenr GMConf.enc x1.masters) (aa (c_s_l1In x0.at_ 0 (subW (x1.masters.length : Int) 1) hr109) (aa g2 tt))))) (by kernel_rfl)
  · have e := Option.some.inj h; subst e
    exact retT 100000 [.res (bl r101) [.undef], .t false, .k, .k, .k, .k, .k, .k, .k, .k, .k, .k, .k, .k, .k, .k, .k] (aa (c_s_ConfOk x1 hr101) (aa g1 tt)) (by kernel_rfl)

abbrev R_i_WrrOk (x0 : GWrr) (x1 : GConf) (r : Bool) : Ex → St → Prop := RetC Try.prog Mo 59 Try.f59 [.agg (GWrr.enc x0), .agg (GConf.enc x1)] (bl r, [.undef, .undef])

theorem c_i_WrrOk (x0 : GWrr) (x1 : GConf) {r : Bool} (h : p_i_WrrOk x0 x1 = some r) : Fine Try.prog Mo (59, [.agg (GWrr.enc x0), .agg (GConf.enc x1)], bl r, [.undef, .undef]) := by
  refine fineT Try.func59 rfl (by kernel_rfl) ?_
  unfold p_i_WrrOk at h
  obtain ⟨r101, hr101, h⟩ := bnd_some h
  rcases ite_some h with ⟨g1, h⟩ | ⟨g1, h⟩
  · obtain ⟨r106, hr106, h⟩ := bnd_some h
    rcases ite_some h with ⟨g2, h⟩ | ⟨g2, h⟩
    · obtain ⟨r114, hr114, h⟩ := bnd_some h
      obtain ⟨r115, hr115, h⟩ := bnd_some h
      have e := Option.some.inj h; subst e
      exact retT 100000 [.res (bl r101) [.undef], .t true, .k, .k, .k, .res (bl r106) [.undef, .undef], .k, .t true, .k, .k, .k, .k, .k, .res (il r114) [.undef, .undef], .k, .res (bl r115) [.undef, .undef, .undef], .k] (aa (c_i_ConfOk x1 hr101) (aa g1 (aa (c_i_isMaster x1 x0.at_ hr106) (aa g2 (aa (c_i_TurnOf x1 x0.at_ hr114) (aa (c_i_within x0.credit 0 r114 hr115) tt)))))) (by kernel_rfl)
    · have e := Option.some.inj h; subst e
      exact retT 100000 [.res (bl r101) [.undef], .t true, .k, .k, .k, .res (bl r106) [.undef, .undef], .k, .t false, .k, .k, .k, .k, .k, .k, .k] (aa (c_i_ConfOk x1 hr101) (aa g1 (aa (c_i_isMaster x1 x0.at_ hr106) (aa g2 tt)))) (by kernel_rfl)
  · have e := Option.some.inj h; subst e
    exact retT 100000 [.res (bl r101) [.undef], .t false, .k, .k, .k, .k, .k, .k, .k, .k, .k, .k, .k, .k] (aa (c_i_ConfOk x1 hr101) (aa g1 tt)) (by kernel_rfl)

abbrev R_w_at (x0 : List Int) (x1 : Int) (r : Int) : Ex → St → Prop := RetC Try.prog Mo 60 Try.f60 [.tr (x0.map encU), il x1] (il r, [.undef, .undef])

theorem c_w_at (x0 : List Int) (x1 : Int) {r : Int} (h : p_w_at x0 x1 = some r) : Fine Try.prog Mo (60, [.tr (x0.map encU), il x1], il r, [.undef, .undef]) := by
  refine fineT Try.func60 rfl (by kernel_rfl) ?_
  unfold p_w_at at h
  rcases ite_some h with ⟨g1, h⟩ | ⟨g1, h⟩
  · obtain ⟨a202, ha202, h⟩ := bnd_some h
    have e := Option.some.inj h; subst e
    exact retT 100000 [.num x0.length 0 0 [], .t true, .row (x1 : Int).toNat (encU a202)] (aa (lenr encU x0) (aa g1 (aa (ixn ha202) (aa (ixr encU ha202) tt)))) (by kernel_rfl)
  · have e := Option.some.inj h; subst e
    exact retT 100000 [.num x0.length 0 0 [], .t false, .num x0.length 0 0 [], .k] (aa (lenr encU x0) (aa g1 (aa (lenr encU x0) tt))) (by kernel_rfl)

abbrev R_i_WrrPick (x0 : GWrr) (x1 : GConf) (x2 : List Bool) (r : GWrr × Int) : Ex → St → Prop := RetC Try.prog Mo 61 Try.f61 [.agg (GWrr.enc x0), .agg (GConf.enc x1), .tr (x2.map encB)] (.tup [.agg (GWrr.enc r.1), il r.2], [.undef, .undef, .undef])

theorem c_i_WrrPick__L1 (x0 : GWrr) (x1 : GConf) (x2 : List Bool) {r : GWrr × Int} : ∀ (m : Nat) (v9 : Int), p_i_WrrPick__L1 x0 x1 x2  m v9 = some r → SX Try.prog (R_i_WrrPick x0 x1 x2 r) (at_ [1, 1, 1, 1, 0, 1, 0] (bodyOf Try.f61) []) .normal (mkS [(2, .tr (x2.map encB)), (3, .ptr (1, 1) 0 0), (4, .ptr (1, 2) 0 0), (6, .ptr (1, 3) 0 0), (8, il (x1.masters.length : Int)), (9, il v9)] [((1, 1), ⟨true, true, true, 0, [(GWrr.enc x0)]⟩), ((1, 2), ⟨true, true, true, 0, [(GConf.enc x1)]⟩), ((1, 3), ⟨true, true, true, 0, [(GWrr.enc (GWrr.mk 0 0))]⟩)] 1) := by
  intro m
  induction m with
  | zero => intro v9 h; cases h
  | succ m ih =>
    intro v9 h
    replace h : p_i_WrrPick__L1b x0 x1 x2  _ v9 = some r := h
    unfold p_i_WrrPick__L1b at h
    rcases ite_some h with ⟨g1, h⟩ | ⟨g1, h⟩
    · obtain ⟨n1005, hn1005, h⟩ := bnd_some h
      obtain ⟨a1102, ha1102, h⟩ := bnd_some h
      rcases ite_some h with ⟨g2, h⟩ | ⟨g2, h⟩
      · obtain ⟨r1203, hr1203, h⟩ := bnd_some h
        have e := Option.some.inj h; subst e
        exact retT 100000 [.t true, .obl, .row ((remW (addW x0.at_ v9) (x1.masters.length : Int)) : Int).toNat (encB a1102), .t true, .res (il r1203) [.undef, .undef]] (aa g1 (aa (nz0 hn1005) (aa (ixn ha1102) (aa (ixr encB ha1102) (aa g2 (aa (c_i_TurnOf x1 (remW (addW x0.at_ v9) (x1.masters.length : Int)) hr1203) tt)))))) (by kernel_rfl)
      · exact cutT [((1, 1), (1, 1)), ((1, 2), (1, 2)), ((1, 3), (1, 3))] 16 [.t true, .obl, .row ((remW (addW x0.at_ v9) (x1.masters.length : Int)) : Int).toNat (encB a1102), .t false] (aa g1 (aa (nz0 hn1005) (aa (ixn ha1102) (aa (ixr encB ha1102) (aa g2 tt))))) (ih _ h) (by kernel_rfl) (by kernel_rfl)
    · have e := Option.some.inj h; subst e
      exact retT 100000 [.t false] (aa g1 tt) (by kernel_rfl)

theorem c_i_WrrPick__J3 (x0 : GWrr) (x1 : GConf) (x2 : List Bool) {r : GWrr × Int} (v34 : Bool) (h : p_i_WrrPick__J3 x0 x1 x2  v34 = some r) : SX Try.prog (R_i_WrrPick x0 x1 x2 r) (at_ [1, 1, 1, 0, 1] (bodyOf Try.f61) []) .normal (mkS [(2, .tr (x2.map encB)), (3, .ptr (1, 1) 0 0), (4, .ptr (1, 2) 0 0), (6, .ptr (1, 3) 0 0), (8, il (x1.masters.length : Int)), (34, bl v34)] [((1, 1), ⟨true, true, true, 0, [(GWrr.enc x0)]⟩), ((1, 2), ⟨true, true, true, 0, [(GConf.enc x1)]⟩), ((1, 3), ⟨true, true, true, 0, [(GWrr.enc (GWrr.mk 0 0))]⟩)] 1) := by
  unfold p_i_WrrPick__J3 at h
  rcases ite_some h with ⟨g1, h⟩ | ⟨g1, h⟩
  · have e := Option.some.inj h; subst e
    exact retT 100000 [.t true] (aa g1 tt) (by kernel_rfl)
  · exact cutT [((1, 1), (1, 1)), ((1, 2), (1, 2)), ((1, 3), (1, 3))] 6 [.t false] (aa g1 tt) (c_i_WrrPick__L1 x0 x1 x2 _ _ h) (by kernel_rfl) (by kernel_rfl)

theorem c_i_WrrPick__J2 (x0 : GWrr) (x1 : GConf) (x2 : List Bool) {r : GWrr × Int} (v23 : Bool) (h : p_i_WrrPick__J2 x0 x1 x2  v23 = some r) : SX Try.prog (R_i_WrrPick x0 x1 x2 r) (at_ [1, 1, 0, 1] (bodyOf Try.f61) []) .normal (mkS [(2, .tr (x2.map encB)), (3, .ptr (1, 1) 0 0), (4, .ptr (1, 2) 0 0), (6, .ptr (1, 3) 0 0), (8, il (x1.masters.length : Int)), (23, bl v23)] [((1, 1), ⟨true, true, true, 0, [(GWrr.enc x0)]⟩), ((1, 2), ⟨true, true, true, 0, [(GConf.enc x1)]⟩), ((1, 3), ⟨true, true, true, 0, [(GWrr.enc (GWrr.mk 0 0))]⟩)] 1) := by
  unfold p_i_WrrPick__J2 at h
  rcases ite_some h with ⟨g1, h⟩ | ⟨g1, h⟩
  · have e := Option.some.inj h; subst e
    exact retT 100000 [.t true] (aa g1 tt) (by kernel_rfl)
  · rcases ite_some h with ⟨g2, h⟩ | ⟨g2, h⟩
    · obtain ⟨a407, ha407, h⟩ := bnd_some h
      exact cutT [((1, 1), (1, 1)), ((1, 2), (1, 2)), ((1, 3), (1, 3))] 5 [.t false, .t true, .k, .k, .k, .row (x0.at_ : Int).toNat (encB a407), .k, .k] (aa g1 (aa g2 (aa (ixn ha407) (aa (ixr encB ha407) tt)))) (c_i_WrrPick__J3 x0 x1 x2 _ h) (by kernel_rfl) (by kernel_rfl)
    · exact cutT [((1, 1), (1, 1)), ((1, 2), (1, 2)), ((1, 3), (1, 3))] 5 [.t false, .t false, .k, .k, .k, .k, .k] (aa g1 (aa g2 tt)) (c_i_WrrPick__J3 x0 x1 x2 _ h) (by kernel_rfl) (by kernel_rfl)

theorem c_i_WrrPick (x0 : GWrr) (x1 : GConf) (x2 : List Bool) {r : GWrr × Int} (h : p_i_WrrPick x0 x1 x2 = some r) : Fine Try.prog Mo (61, [.agg (GWrr.enc x0), .agg (GConf.enc x1), .tr (x2.map encB)], .tup [.agg (GWrr.enc r.1), il r.2], [.undef, .undef, .undef]) := by
  refine fineT Try.func61 rfl (by kernel_rfl) ?_
  unfold p_i_WrrPick at h
  obtain ⟨r202, hr202, h⟩ := bnd_some h
  rcases ite_some h with ⟨g1, h⟩ | ⟨g1, h⟩
  · exact cutT [((1, 1), (1, 0)), ((1, 2), (1, 1024)), ((1, 3), (1, 2048))] 7 [.num x1.masters.length 0 0 [], .res (bl r202) [.undef, .undef], .t true, .k, .k, .k, .k] (aa (lenr GMConf.enc x1.masters) (aa (c_i_WrrOk x0 x1 hr202) (aa g1 tt))) (c_i_WrrPick__J2 x0 x1 x2 _ h) (by kernel_rfl) (by kernel_rfl)
  · exact cutT [((1, 1), (1, 0)), ((1, 2), (1, 1024)), ((1, 3), (1, 2048))] 7 [.num x1.masters.length 0 0 [], .res (bl r202) [.undef, .undef], .t false, .k, .num x2.length 0 0 [], .k, .k, .k] (aa (lenr GMConf.enc x1.masters) (aa (c_i_WrrOk x0 x1 hr202) (aa g1 (aa (lenr encB x2) tt)))) (c_i_WrrPick__J2 x0 x1 x2 _ h) (by kernel_rfl) (by kernel_rfl)

abbrev R_i_Served (x0 : List GDone) (x1 : Int) (x2 : Int) (x3 : Int) (r : Int) : Ex → St → Prop := RetC Try.prog Mo 100 Try.f100 [.tr (x0.map GDone.enc), il x1, il x2, il x3] (il r, [.undef, .undef, .undef, .undef])

theorem c_i_Served__L1 (x0 : List GDone) (x1 : Int) (x2 : Int) (x3 : Int) {r : Int} : ∀ (m : Nat) (v9 : Int) (v14 : Int), p_i_Served__L1 x0 x1 x2 x3  m v9 v14 = some r → SX Try.prog (R_i_Served x0 x1 x2 x3 r) (at_ [1, 1, 0, 1, 0] (bodyOf Try.f100) []) .normal (mkS [(1, il x1), (2, il x2), (3, il x3), (9, il v9), (12, .tr (x0.map GDone.enc)), (13, il (x0.length : Int)), (14, il v14)] [] 1) := by
  intro m
  induction m with
  | zero => intro v9 v14 h; cases h
  | succ m ih =>
    intro v9 v14 h
    replace h : p_i_Served__L1b x0 x1 x2 x3  _ v9 v14 = some r := h
    unfold p_i_Served__L1b at h
    rcases ite_some h with ⟨g1, h⟩ | ⟨g1, h⟩
    · obtain ⟨a400, ha400, h⟩ := bnd_some h
      rcases ite_some h with ⟨g2, h⟩ | ⟨g2, h⟩
      · rcases ite_some h with ⟨g3, h⟩ | ⟨g3, h⟩
        · rcases ite_some h with ⟨g4, h⟩ | ⟨g4, h⟩
          · exact cutT [] 16 [.t true, .row (v14 : Int).toNat (GDone.enc a400), .t true, .k, .k, .k, .k, .t true, .k, .k, .k, .k, .t true] (aa g1 (aa (ixn ha400) (aa (ixr GDone.enc ha400) (aa g2 (aa g3 (aa g4 tt)))))) (ih _ _ h) (by kernel_rfl) (by kernel_rfl)
          · exact cutT [] 16 [.t true, .row (v14 : Int).toNat (GDone.enc a400), .t true, .k, .k, .k, .k, .t true, .k, .k, .k, .k, .t false] (aa g1 (aa (ixn ha400) (aa (ixr GDone.enc ha400) (aa g2 (aa g3 (aa g4 tt)))))) (ih _ _ h) (by kernel_rfl) (by kernel_rfl)
        · exact cutT [] 16 [.t true, .row (v14 : Int).toNat (GDone.enc a400), .t true, .k, .k, .k, .k, .t false, .k, .k, .k, .k, .k] (aa g1 (aa (ixn ha400) (aa (ixr GDone.enc ha400) (aa g2 (aa g3 tt))))) (ih _ _ h) (by kernel_rfl) (by kernel_rfl)
      · exact cutT [] 16 [.t true, .row (v14 : Int).toNat (GDone.enc a400), .t false, .k, .k, .k, .k, .k, .k, .k, .k, .k, .k] (aa g1 (aa (ixn ha400) (aa (ixr GDone.enc ha400) (aa g2 tt)))) (ih _ _ h) (by kernel_rfl) (by kernel_rfl)
    · have e := Option.some.inj h; subst e
      exact retT 100000 [.t false] (aa g1 tt) (by kernel_rfl)

theorem c_i_Served (x0 : List GDone) (x1 : Int) (x2 : Int) (x3 : Int) {r : Int} (h : p_i_Served x0 x1 x2 x3 = some r) : Fine Try.prog Mo (100, [.tr (x0.map GDone.enc), il x1, il x2, il x3], il r, [.undef, .undef, .undef, .undef]) := by
  refine fineT Try.func100 rfl (by kernel_rfl) ?_
  unfold p_i_Served at h
  exact cutT [] 8 [.num x0.length 0 0 []] (aa (lenr GDone.enc x0) tt) (c_i_Served__L1 x0 x1 x2 x3 _ _ _ h) (by kernel_rfl) (by kernel_rfl)

abbrev R_i_Spread (x0 : GConf) (x1 : List GDone) (x2 : Int) (x3 : Int) (r : Int) : Ex → St → Prop := RetC Try.prog Mo 62 Try.f62 [.agg (GConf.enc x0), .tr (x1.map GDone.enc), il x2, il x3] (il r, [.undef, .undef, .undef, .undef])

theorem c_i_Spread (x0 : GConf) (x1 : List GDone) (x2 : Int) (x3 : Int) {r : Int} (h : p_i_Spread x0 x1 x2 x3 = some r) : Fine Try.prog Mo (62, [.agg (GConf.enc x0), .tr (x1.map GDone.enc), il x2, il x3], il r, [.undef, .undef, .undef, .undef]) := by
  refine fineT Try.func62 rfl (by kernel_rfl) ?_
  unfold p_i_Spread at h
  obtain ⟨r103, hr103, h⟩ := bnd_some h
  rcases ite_some h with ⟨g1, h⟩ | ⟨g1, h⟩
  · have e := Option.some.inj h; subst e
    exact retT 100000 [.res (bl r103) [.undef, .undef, .undef], .t true] (aa (c_i_areTurns x0 x2 x3 hr103) (aa g1 tt)) (by kernel_rfl)
  · obtain ⟨r302, hr302, h⟩ := bnd_some h
    obtain ⟨a306, ha306, h⟩ := bnd_some h
    obtain ⟨r312, hr312, h⟩ := bnd_some h
    obtain ⟨a316, ha316, h⟩ := bnd_some h
    have e := Option.some.inj h; subst e
    exact retT 100000 [.res (bl r103) [.undef, .undef, .undef], .t false, .res (il r302) [.undef, .undef, .undef, .undef], .row (x3 : Int).toNat (GMConf.enc a306), .res (il r312) [.undef, .undef, .undef, .undef], .row (x2 : Int).toNat (GMConf.enc a316)] (aa (c_i_areTurns x0 x2 x3 hr103) (aa g1 (aa (c_i_Served x1 x2 0 4000 hr302) (aa (ixn ha306) (aa (ixr GMConf.enc ha306) (aa (c_i_Served x1 x3 0 4000 hr312) (aa (ixn ha316) (aa (ixr GMConf.enc ha316) tt)))))))) (by kernel_rfl)

abbrev R_s_Served (x0 : List GDone) (x1 : Int) (x2 : Int) (x3 : Int) (r : Int) : Ex → St → Prop := RetC Try.prog Mo 101 Try.f101 [.tr (x0.map GDone.enc), il x1, il x2, il x3] (il r, [.undef, .undef, .undef, .undef])

theorem c_s_Served__L1 (x0 : List GDone) (x1 : Int) (x2 : Int) (x3 : Int) {r : Int} : ∀ (m : Nat) (v9 : Int) (v10 : Int), p_s_Served__L1 x0 x1 x2 x3  m v9 v10 = some r → SX Try.prog (R_s_Served x0 x1 x2 x3 r) (at_ [1, 1, 0, 1, 0] (bodyOf Try.f101) []) .normal (mkS [(0, .tr (x0.map GDone.enc)), (1, il x1), (2, il x2), (3, il x3), (9, il v9), (10, il v10)] [] 1) := by
  intro m
  induction m with
  | zero => intro v9 v10 h; cases h
  | succ m ih =>
    intro v9 v10 h
    replace h : p_s_Served__L1b x0 x1 x2 x3  _ v9 v10 = some r := h
    unfold p_s_Served__L1b at h
    rcases ite_some h with ⟨g1, h⟩ | ⟨g1, h⟩
    · obtain ⟨a502, ha502, h⟩ := bnd_some h
      rcases ite_some h with ⟨g2, h⟩ | ⟨g2, h⟩
      · rcases ite_some h with ⟨g3, h⟩ | ⟨g3, h⟩
        · rcases ite_some h with ⟨g4, h⟩ | ⟨g4, h⟩
          · exact cutT [] 14 [.num x0.length 0 0 [], .t true, .row (v10 : Int).toNat (GDone.enc a502), .t true, .k, .k, .row (v10 : Int).toNat (GDone.enc a502), .k, .k, .k, .k, .k, .t true, .k, .k, .row (v10 : Int).toNat (GDone.enc a502), .k, .k, .k, .k, .k, .t true] (aa (lenr GDone.enc x0) (aa g1 (aa (ixn ha502) (aa (ixr GDone.enc ha502) (aa g2 (aa (ixn ha502) (aa (ixr GDone.enc ha502) (aa g3 (aa (ixn ha502) (aa (ixr GDone.enc ha502) (aa g4 tt))))))))))) (ih _ _ h) (by kernel_rfl) (by kernel_rfl)
          · exact cutT [] 14 [.num x0.length 0 0 [], .t true, .row (v10 : Int).toNat (GDone.enc a502), .t true, .k, .k, .row (v10 : Int).toNat (GDone.enc a502), .k, .k, .k, .k, .k, .t true, .k, .k, .row (v10 : Int).toNat (GDone.enc a502), .k, .k, .k, .k, .k, .t false] (aa (lenr GDone.enc x0) (aa g1 (aa (ixn ha502) (aa (ixr GDone.enc ha502) (aa g2 (aa (ixn ha502) (aa (ixr GDone.enc ha502) (aa g3 (aa (ixn ha502) (aa (ixr GDone.enc ha502) (aa g4 tt))))))))))) (ih _ _ h) (by kernel_rfl) (by kernel_rfl)
        · exact cutT [] 14 [.num x0.length 0 0 [], .t true, .row (v10 : Int).toNat (GDone.enc a502), .t true, .k, .k, .row (v10 : Int).toNat (GDone.enc a502), .k, .k, .k, .k, .k, .t false, .k, .k, .k, .k, .k, .k, .k, .k] (aa (lenr GDone.enc x0) (aa g1 (aa (ixn ha502) (aa (ixr GDone.enc ha502) (aa g2 (aa (ixn ha502) (aa (ixr GDone.enc ha502) (aa g3 tt)))))))) (ih _ _ h) (by kernel_rfl) (by kernel_rfl)
      · exact cutT [] 14 [.num x0.length 0 0 [], .t true, .row (v10 : Int).toNat (GDone.enc a502), .t false, .k, .k, .k, .k, .k, .k, .k, .k, .k, .k, .k, .k, .k, .k, .k, .k] (aa (lenr GDone.enc x0) (aa g1 (aa (ixn ha502) (aa (ixr GDone.enc ha502) (aa g2 tt))))) (ih _ _ h) (by kernel_rfl) (by kernel_rfl)
    · have e := Option.some.inj h; subst e
      exact retT 100000 [.num x0.length 0 0 [], .t false] (aa (lenr GDone.enc x0) (aa g1 tt)) (by kernel_rfl)

theorem c_s_Served (x0 : List GDone) (x1 : Int) (x2 : Int) (x3 : Int) {r : Int} (h : p_s_Served x0 x1 x2 x3 = some r) : Fine Try.prog Mo (101, [.tr (x0.map GDone.enc), il x1, il x2, il x3], il r, [.undef, .undef, .undef, .undef]) := by
  refine fineT Try.func101 rfl (by kernel_rfl) ?_
  unfold p_s_Served at h
  exact cutT [] 8 [] tt (c_s_Served__L1 x0 x1 x2 x3 _ _ _ h) (by kernel_rfl) (by kernel_rfl)

abbrev R_s_Spread (x0 : GConf) (x1 : List GDone) (x2 : Int) (x3 : Int) (r : Int) : Ex → St → Prop := RetC Try.prog Mo 63 Try.f63 [.agg (GConf.enc x0), .tr (x1.map GDone.enc), il x2, il x3] (il r, [.undef, .undef, .undef, .undef])

theorem c_s_Spread__J1 (x0 : GConf) (x1 : List GDone) (x2 : Int) (x3 : Int) {r : Int} (v19 : Bool) (h : p_s_Spread__J1 x0 x1 x2 x3  v19 = some r) : SX Try.prog (R_s_Spread x0 x1 x2 x3 r) (at_ [1, 0, 1] (bodyOf Try.f63) []) .normal (mkS [(1, .tr (x1.map GDone.enc)), (2, il x2), (3, il x3), (4, .ptr (1, 1) 0 0), (19, bl v19)] [((1, 1), ⟨true, true, true, 0, [(GConf.enc x0)]⟩)] 1) := by
  unfold p_s_Spread__J1 at h
  rcases ite_some h with ⟨g1, h⟩ | ⟨g1, h⟩
  · have e := Option.some.inj h; subst e
    exact retT 100000 [.t true] (aa g1 tt) (by kernel_rfl)
  · obtain ⟨r302, hr302, h⟩ := bnd_some h
    obtain ⟨a306, ha306, h⟩ := bnd_some h
    obtain ⟨r312, hr312, h⟩ := bnd_some h
    obtain ⟨a316, ha316, h⟩ := bnd_some h
    have e := Option.some.inj h; subst e
    exact retT 100000 [.t false, .res (il r302) [.undef, .undef, .undef, .undef], .row (x3 : Int).toNat (GMConf.enc a306), .res (il r312) [.undef, .undef, .undef, .undef], .row (x2 : Int).toNat (GMConf.enc a316)] (aa g1 (aa (c_s_Served x1 x2 0 4000 hr302) (aa (ixn ha306) (aa (ixr GMConf.enc ha306) (aa (c_s_Served x1 x3 0 4000 hr312) (aa (ixn ha316) (aa (ixr GMConf.enc ha316) tt))))))) (by kernel_rfl)

theorem c_s_Spread (x0 : GConf) (x1 : List GDone) (x2 : Int) (x3 : Int) {r : Int} (h : p_s_Spread x0 x1 x2 x3 = some r) : Fine Try.prog Mo (63, [.agg (GConf.enc x0), .tr (x1.map GDone.enc), il x2, il x3], il r, [.undef, .undef, .undef, .undef]) := by
  refine fineT Try.func63 rfl (by kernel_rfl) ?_
  unfold p_s_Spread at h
  obtain ⟨r102, hr102, h⟩ := bnd_some h
  rcases ite_some h with ⟨g1, h⟩ | ⟨g1, h⟩
  · exact cutT [((1, 1), (1, 0))] 5 [.res (il r102) [.undef, .undef], .t true, .k, .k, .k, .k] (aa (c_s_TurnOf x0 x2 hr102) (aa g1 tt)) (c_s_Spread__J1 x0 x1 x2 x3 _ h) (by kernel_rfl) (by kernel_rfl)
  · obtain ⟨r107, hr107, h⟩ := bnd_some h
    exact cutT [((1, 1), (1, 0))] 5 [.res (il r102) [.undef, .undef], .t false, .k, .k, .res (il r107) [.undef, .undef], .k, .k] (aa (c_s_TurnOf x0 x2 hr102) (aa g1 (aa (c_s_TurnOf x0 x3 hr107) tt))) (c_s_Spread__J1 x0 x1 x2 x3 _ h) (by kernel_rfl) (by kernel_rfl)

abbrev R_w_FnFair (x0 : List Int) (r : Bool) : Ex → St → Prop := RetC Try.prog Mo 13 Try.f13 [.tr (x0.map encU)] (bl r, [.undef])

theorem c_w_FnFair__J5 (x0 : List Int) {r : Bool} (k_L2 : GWrr → GConf → (List GDone) → (List Bool) → Int → Option Bool) (i_L2 : ∀ (vbox_1_1 : GWrr) (vbox_1_2 : GConf) (v5 : List GDone) (v6 : List Bool) (v8 : Int), k_L2 vbox_1_1 vbox_1_2 v5 v6 v8 = some r → SX Try.prog (R_w_FnFair x0 r) (at_ [1, 1, 1, 1, 1, 1, 1, 1, 0, 1, 0] (bodyOf Try.f13) []) .normal (mkS [(0, .tr (x0.map encU)), (3, .ptr (1, 1) 0 0), (4, .ptr (1, 2) 0 0), (5, .sl (1, 4) 0 (v5.map GDone.enc).length), (6, .sl (1, 5) 0 (v6.map encB).length), (8, il v8)] [((1, 1), ⟨true, true, true, 0, [(GWrr.enc vbox_1_1)]⟩), ((1, 3), ⟨false, true, true, 115, vbox_1_2.masters.map GMConf.enc⟩), ((1, 2), ⟨true, true, true, 0, [[.sl (1, 3) 0 (vbox_1_2.masters.map GMConf.enc).length, il vbox_1_2.quantum, il vbox_1_2.maxWait, il vbox_1_2.maxRetry, il vbox_1_2.maxSplit, il vbox_1_2.lockMost]]⟩), ((1, 4), ⟨false, true, true, 87, v5.map GDone.enc⟩), ((1, 5), ⟨false, true, true, 4, v6.map encB⟩)] 1)) (vbox_1_1 : GWrr) (vbox_1_2 : GConf) (vbox_1_4 : GWrr) (v5 : List GDone) (v6 : List Bool) (v8 : Int) (v10 : Int) (v70 : Bool) (h : p_w_FnFair__J5 x0 k_L2 vbox_1_1 vbox_1_2 vbox_1_4 v5 v6 v8 v10 v70 = some r) : SX Try.prog (R_w_FnFair x0 r) (at_ [1, 1, 1, 1, 1, 1, 1, 1, 0, 1, 0, 0, 1, 0, 0, 1, 0, 1] (bodyOf Try.f13) []) .normal (mkS [(0, .tr (x0.map encU)), (3, .ptr (1, 1) 0 0), (4, .ptr (1, 2) 0 0), (5, .sl (1, 5) 0 (v5.map GDone.enc).length), (6, .sl (1, 6) 0 (v6.map encB).length), (8, il v8), (9, .ptr (1, 4) 0 0), (10, il v10), (70, bl v70)] [((1, 1), ⟨true, true, true, 0, [(GWrr.enc vbox_1_1)]⟩), ((1, 3), ⟨false, true, true, 115, vbox_1_2.masters.map GMConf.enc⟩), ((1, 2), ⟨true, true, true, 0, [[.sl (1, 3) 0 (vbox_1_2.masters.map GMConf.enc).length, il vbox_1_2.quantum, il vbox_1_2.maxWait, il vbox_1_2.maxRetry, il vbox_1_2.maxSplit, il vbox_1_2.lockMost]]⟩), ((1, 4), ⟨true, true, true, 0, [(GWrr.enc vbox_1_4)]⟩), ((1, 5), ⟨false, true, true, 87, v5.map GDone.enc⟩), ((1, 6), ⟨false, true, true, 4, v6.map encB⟩)] 1) := by
  unfold p_w_FnFair__J5 at h
  rcases ite_some h with ⟨g1, h⟩ | ⟨g1, h⟩
  · have e := Option.some.inj h; subst e
    exact retT 100000 [.t true] (aa g1 tt) (by kernel_rfl)
  · obtain ⟨z1905, hz1905, h⟩ := bnd_some h
    exact cutT [((1, 1), (1, 1)), ((1, 2), (1, 2)), ((1, 3), (1, 3)), ((1, 4), (2, 5120)), ((1, 5), (1, 6))] 7 [.t false, .app ([(GDone.mk v8 v10 false 0 0 0 0)].map GDone.enc) true (z1905.map GDone.enc) (z1905.map GDone.enc).length, .k, .num (z1905.map GDone.enc).length 0 0 [], .num (v6.map encB).length 0 0 [], .num (vbox_1_2.masters.map GMConf.enc).length 0 0 []] (aa g1 (aa (show 1 = ([(GDone.mk v8 v10 false 0 0 0 0)].map GDone.enc).length from rfl) (aa (Eq.refl ([(GDone.mk v8 v10 false 0 0 0 0)].map GDone.enc)) (aa (alr 7 GDone.enc_len [(GDone.mk v8 v10 false 0 0 0 0)]) (aa (lene GDone.enc v5) (aa (apl GDone.enc hz1905) (aa (apm GDone.enc hz1905) (aa (lene GDone.enc z1905) (aa (lene GDone.enc z1905) (aa (lene encB v6) (aa (lene GMConf.enc vbox_1_2.masters) tt))))))))))) (i_L2 _ _ _ _ _ h) (by kernel_rfl) (by kernel_rfl)

theorem c_w_FnFair__L4 (x0 : List Int) {r : Bool} (k_L3 : GConf → (List GDone) → (List Bool) → Int → Option Bool) (i_L3 : ∀ (vbox_1_1 : GConf) (v5 : List GDone) (v6 : List Bool) (v11 : Int), k_L3 vbox_1_1 v5 v6 v11 = some r → SX Try.prog (R_w_FnFair x0 r) (at_ [1, 1, 1, 1, 1, 1, 1, 1, 1, 0, 1, 0] (bodyOf Try.f13) []) .normal (mkS [(4, .ptr (1, 1) 0 0), (5, .sl (1, 3) 0 (v5.map GDone.enc).length), (6, .sl (1, 4) 0 (v6.map encB).length), (11, il v11)] [((1, 2), ⟨false, true, true, 115, vbox_1_1.masters.map GMConf.enc⟩), ((1, 1), ⟨true, true, true, 0, [[.sl (1, 2) 0 (vbox_1_1.masters.map GMConf.enc).length, il vbox_1_1.quantum, il vbox_1_1.maxWait, il vbox_1_1.maxRetry, il vbox_1_1.maxSplit, il vbox_1_1.lockMost]]⟩), ((1, 3), ⟨false, true, true, 87, v5.map GDone.enc⟩), ((1, 4), ⟨false, true, true, 4, v6.map encB⟩)] 1)) : ∀ (m : Nat) (vbox_1_1 : GConf) (v5 : List GDone) (v6 : List Bool) (v11 : Int) (v12 : Int), p_w_FnFair__L4 x0 k_L3 m vbox_1_1 v5 v6 v11 v12 = some r → SX Try.prog (R_w_FnFair x0 r) (at_ [1, 1, 1, 1, 1, 1, 1, 1, 1, 0, 1, 0, 0, 1, 0, 0, 1, 0] (bodyOf Try.f13) []) .normal (mkS [(4, .ptr (1, 1) 0 0), (5, .sl (1, 3) 0 (v5.map GDone.enc).length), (6, .sl (1, 4) 0 (v6.map encB).length), (11, il v11), (12, il v12)] [((1, 2), ⟨false, true, true, 115, vbox_1_1.masters.map GMConf.enc⟩), ((1, 1), ⟨true, true, true, 0, [[.sl (1, 2) 0 (vbox_1_1.masters.map GMConf.enc).length, il vbox_1_1.quantum, il vbox_1_1.maxWait, il vbox_1_1.maxRetry, il vbox_1_1.maxSplit, il vbox_1_1.lockMost]]⟩), ((1, 3), ⟨false, true, true, 87, v5.map GDone.enc⟩), ((1, 4), ⟨false, true, true, 4, v6.map encB⟩)] 1) := by
  intro m
  induction m with
  | zero => intro vbox_1_1 v5 v6 v11 v12 h; cases h
  | succ m ih =>
    intro vbox_1_1 v5 v6 v11 v12 h
    replace h : p_w_FnFair__L4b x0 k_L3 _ vbox_1_1 v5 v6 v11 v12 = some r := h
    unfold p_w_FnFair__L4b at h
    rcases ite_some h with ⟨g1, h⟩ | ⟨g1, h⟩
    · obtain ⟨r2704, hr2704, h⟩ := bnd_some h
      obtain ⟨r2708, hr2708, h⟩ := bnd_some h
      rcases ite_some h with ⟨g2, h⟩ | ⟨g2, h⟩
      · have e := Option.some.inj h; subst e
        exact retT 100000 [.num v6.length 0 0 [], .t true, .k, .k, .res (il r2704) [.undef, .undef, .undef, .undef], .k, .res (il r2708) [.undef, .undef, .undef], .t true, .k, .k, .k, .k, .k, .k, .k, .k, .k, .k, .k, .k] (aa (lenr encB v6) (aa g1 (aa (lene GMConf.enc vbox_1_1.masters) (aa (lene GDone.enc v5) (aa (c_i_Spread vbox_1_1 v5 v11 v12 hr2704) (aa (lene GMConf.enc vbox_1_1.masters) (aa (c_i_SpreadMost vbox_1_1 v11 v12 hr2708) (aa g2 tt)))))))) (by kernel_rfl)
      · obtain ⟨r2715, hr2715, h⟩ := bnd_some h
        obtain ⟨r2720, hr2720, h⟩ := bnd_some h
        rcases ite_some h with ⟨g3, h⟩ | ⟨g3, h⟩
        · have e := Option.some.inj h; subst e
          exact retT 100000 [.num v6.length 0 0 [], .t true, .k, .k, .res (il r2704) [.undef, .undef, .undef, .undef], .k, .res (il r2708) [.undef, .undef, .undef], .t false, .k, .k, .k, .k, .k, .k, .res (il r2715) [.undef, .undef, .undef, .undef], .k, .k, .k, .k, .k, .k, .k, .res (il r2720) [.undef, .undef, .undef, .undef], .k, .k, .t true] (aa (lenr encB v6) (aa g1 (aa (lene GMConf.enc vbox_1_1.masters) (aa (lene GDone.enc v5) (aa (c_i_Spread vbox_1_1 v5 v11 v12 hr2704) (aa (lene GMConf.enc vbox_1_1.masters) (aa (c_i_SpreadMost vbox_1_1 v11 v12 hr2708) (aa g2 (aa (lene GMConf.enc vbox_1_1.masters) (aa (lene GDone.enc v5) (aa (c_i_Spread vbox_1_1 v5 v11 v12 hr2715) (aa (lene GMConf.enc vbox_1_1.masters) (aa (lene GDone.enc v5) (aa (c_s_Spread vbox_1_1 v5 v11 v12 hr2720) (aa g3 tt))))))))))))))) (by kernel_rfl)
        · exact cutT [((1, 1), (1, 1)), ((1, 2), (1, 2)), ((1, 3), (1, 3)), ((1, 4), (1, 4))] 14 [.num v6.length 0 0 [], .t true, .k, .k, .res (il r2704) [.undef, .undef, .undef, .undef], .k, .res (il r2708) [.undef, .undef, .undef], .t false, .k, .k, .k, .k, .k, .k, .res (il r2715) [.undef, .undef, .undef, .undef], .k, .k, .k, .k, .k, .k, .k, .res (il r2720) [.undef, .undef, .undef, .undef], .k, .k, .t false, .num (v5.map GDone.enc).length 0 0 [], .num (v6.map encB).length 0 0 [], .num (vbox_1_1.masters.map GMConf.enc).length 0 0 []] (aa (lenr encB v6) (aa g1 (aa (lene GMConf.enc vbox_1_1.masters) (aa (lene GDone.enc v5) (aa (c_i_Spread vbox_1_1 v5 v11 v12 hr2704) (aa (lene GMConf.enc vbox_1_1.masters) (aa (c_i_SpreadMost vbox_1_1 v11 v12 hr2708) (aa g2 (aa (lene GMConf.enc vbox_1_1.masters) (aa (lene GDone.enc v5) (aa (c_i_Spread vbox_1_1 v5 v11 v12 hr2715) (aa (lene GMConf.enc vbox_1_1.masters) (aa (lene GDone.enc v5) (aa (c_s_Spread vbox_1_1 v5 v11 v12 hr2720) (aa g3 (aa (lene GDone.enc v5) (aa (lene encB v6) (aa (lene GMConf.enc vbox_1_1.masters) tt)))))))))))))))))) (ih _ _ _ _ _ h) (by kernel_rfl) (by kernel_rfl)
    · exact cutT [((1, 1), (1, 1)), ((1, 2), (1, 2)), ((1, 3), (1, 3)), ((1, 4), (1, 4))] 11 [.num v6.length 0 0 [], .t false, .num (v5.map GDone.enc).length 0 0 [], .num (v6.map encB).length 0 0 [], .num (vbox_1_1.masters.map GMConf.enc).length 0 0 []] (aa (lenr encB v6) (aa g1 (aa (lene GDone.enc v5) (aa (lene encB v6) (aa (lene GMConf.enc vbox_1_1.masters) tt))))) (i_L3 _ _ _ _ h) (by kernel_rfl) (by kernel_rfl)

theorem c_w_FnFair__L3 (x0 : List Int) {r : Bool} : ∀ (m : Nat) (vbox_1_1 : GConf) (v5 : List GDone) (v6 : List Bool) (v11 : Int), p_w_FnFair__L3 x0  m vbox_1_1 v5 v6 v11 = some r → SX Try.prog (R_w_FnFair x0 r) (at_ [1, 1, 1, 1, 1, 1, 1, 1, 1, 0, 1, 0] (bodyOf Try.f13) []) .normal (mkS [(4, .ptr (1, 1) 0 0), (5, .sl (1, 3) 0 (v5.map GDone.enc).length), (6, .sl (1, 4) 0 (v6.map encB).length), (11, il v11)] [((1, 2), ⟨false, true, true, 115, vbox_1_1.masters.map GMConf.enc⟩), ((1, 1), ⟨true, true, true, 0, [[.sl (1, 2) 0 (vbox_1_1.masters.map GMConf.enc).length, il vbox_1_1.quantum, il vbox_1_1.maxWait, il vbox_1_1.maxRetry, il vbox_1_1.maxSplit, il vbox_1_1.lockMost]]⟩), ((1, 3), ⟨false, true, true, 87, v5.map GDone.enc⟩), ((1, 4), ⟨false, true, true, 4, v6.map encB⟩)] 1) := by
  intro m
  induction m with
  | zero => intro vbox_1_1 v5 v6 v11 h; cases h
  | succ m ih =>
    intro vbox_1_1 v5 v6 v11 h
    replace h : p_w_FnFair__L3b x0  _ vbox_1_1 v5 v6 v11 = some r := h
    unfold p_w_FnFair__L3b at h
    rcases ite_some h with ⟨g1, h⟩ | ⟨g1, h⟩
    · exact cutT [((1, 1), (1, 1)), ((1, 2), (1, 2)), ((1, 3), (1, 3)), ((1, 4), (1, 4))] 11 [.num v6.length 0 0 [], .t true, .num (v5.map GDone.enc).length 0 0 [], .num (v6.map encB).length 0 0 [], .num (vbox_1_1.masters.map GMConf.enc).length 0 0 []] (aa (lenr encB v6) (aa g1 (aa (lene GDone.enc v5) (aa (lene encB v6) (aa (lene GMConf.enc vbox_1_1.masters) tt))))) (c_w_FnFair__L4 x0 _ ih _ _ _ _ _ _ h) (by kernel_rfl) (by kernel_rfl)
    · have e := Option.some.inj h; subst e
      exact retT 100000 [.num v6.length 0 0 [], .t false] (aa (lenr encB v6) (aa g1 tt)) (by kernel_rfl)

theorem c_w_FnFair__L2 (x0 : List Int) {r : Bool} : ∀ (m : Nat) (vbox_1_1 : GWrr) (vbox_1_2 : GConf) (v5 : List GDone) (v6 : List Bool) (v8 : Int), p_w_FnFair__L2 x0  m vbox_1_1 vbox_1_2 v5 v6 v8 = some r → SX Try.prog (R_w_FnFair x0 r) (at_ [1, 1, 1, 1, 1, 1, 1, 1, 0, 1, 0] (bodyOf Try.f13) []) .normal (mkS [(0, .tr (x0.map encU)), (3, .ptr (1, 1) 0 0), (4, .ptr (1, 2) 0 0), (5, .sl (1, 4) 0 (v5.map GDone.enc).length), (6, .sl (1, 5) 0 (v6.map encB).length), (8, il v8)] [((1, 1), ⟨true, true, true, 0, [(GWrr.enc vbox_1_1)]⟩), ((1, 3), ⟨false, true, true, 115, vbox_1_2.masters.map GMConf.enc⟩), ((1, 2), ⟨true, true, true, 0, [[.sl (1, 3) 0 (vbox_1_2.masters.map GMConf.enc).length, il vbox_1_2.quantum, il vbox_1_2.maxWait, il vbox_1_2.maxRetry, il vbox_1_2.maxSplit, il vbox_1_2.lockMost]]⟩), ((1, 4), ⟨false, true, true, 87, v5.map GDone.enc⟩), ((1, 5), ⟨false, true, true, 4, v6.map encB⟩)] 1) := by
  intro m
  induction m with
  | zero => intro vbox_1_1 vbox_1_2 v5 v6 v8 h; cases h
  | succ m ih =>
    intro vbox_1_1 vbox_1_2 v5 v6 v8 h
    replace h : p_w_FnFair__L2b x0  _ vbox_1_1 vbox_1_2 v5 v6 v8 = some r := h
    unfold p_w_FnFair__L2b at h
    obtain ⟨r1402, hr1402, h⟩ := bnd_some h
    rcases ite_some h with ⟨g1, h⟩ | ⟨g1, h⟩
    · obtain ⟨r1603, hr1603, h⟩ := bnd_some h
      rcases ite_some h with ⟨g2, h⟩ | ⟨g2, h⟩
      · exact cutT [((1, 1), (1, 1)), ((1, 2), (1, 2)), ((1, 3), (1, 3)), ((1, 4), (3, 7168)), ((1, 5), (1, 4)), ((1, 6), (1, 5))] 13 [.res (il r1402) [.undef, .undef], .t true, .k, .k, .res (.tup [.agg (GWrr.enc r1603.1), il r1603.2]) [.undef, .undef, .undef], .t true, .k, .k, .k, .k, .k, .k, .k, .k, .k, .num (v5.map GDone.enc).length 0 0 [], .num (v6.map encB).length 0 0 [], .num (vbox_1_2.masters.map GMConf.enc).length 0 0 []] (aa (c_w_at x0 0 hr1402) (aa g1 (aa (lene GMConf.enc vbox_1_2.masters) (aa (lene encB v6) (aa (c_i_WrrPick vbox_1_1 vbox_1_2 v6 hr1603) (aa g2 (aa (lene GDone.enc v5) (aa (lene encB v6) (aa (lene GMConf.enc vbox_1_2.masters) tt))))))))) (c_w_FnFair__J5 x0 _ ih _ _ _ _ _ _ _ _ h) (by kernel_rfl) (by kernel_rfl)
      · rcases ite_some h with ⟨g3, h⟩ | ⟨g3, h⟩
        · exact cutT [((1, 1), (1, 1)), ((1, 2), (1, 2)), ((1, 3), (1, 3)), ((1, 4), (3, 7168)), ((1, 5), (1, 4)), ((1, 6), (1, 5))] 13 [.res (il r1402) [.undef, .undef], .t true, .k, .k, .res (.tup [.agg (GWrr.enc r1603.1), il r1603.2]) [.undef, .undef, .undef], .t false, .k, .k, .num v6.length 0 0 [], .k, .k, .t true, .k, .k, .k, .k, .num (v5.map GDone.enc).length 0 0 [], .num (v6.map encB).length 0 0 [], .num (vbox_1_2.masters.map GMConf.enc).length 0 0 []] (aa (c_w_at x0 0 hr1402) (aa g1 (aa (lene GMConf.enc vbox_1_2.masters) (aa (lene encB v6) (aa (c_i_WrrPick vbox_1_1 vbox_1_2 v6 hr1603) (aa g2 (aa (lenr encB v6) (aa g3 (aa (lene GDone.enc v5) (aa (lene encB v6) (aa (lene GMConf.enc vbox_1_2.masters) tt))))))))))) (c_w_FnFair__J5 x0 _ ih _ _ _ _ _ _ _ _ h) (by kernel_rfl) (by kernel_rfl)
        · obtain ⟨r1711, hr1711, h⟩ := bnd_some h
          exact cutT [((1, 1), (1, 1)), ((1, 2), (1, 2)), ((1, 3), (1, 3)), ((1, 4), (3, 7168)), ((1, 5), (1, 4)), ((1, 6), (1, 5))] 13 [.res (il r1402) [.undef, .undef], .t true, .k, .k, .res (.tup [.agg (GWrr.enc r1603.1), il r1603.2]) [.undef, .undef, .undef], .t false, .k, .k, .num v6.length 0 0 [], .k, .k, .t false, .k, .k, .k, .res (bl r1711) [.undef, .undef], .k, .k, .num (v5.map GDone.enc).length 0 0 [], .num (v6.map encB).length 0 0 [], .num (vbox_1_2.masters.map GMConf.enc).length 0 0 []] (aa (c_w_at x0 0 hr1402) (aa g1 (aa (lene GMConf.enc vbox_1_2.masters) (aa (lene encB v6) (aa (c_i_WrrPick vbox_1_1 vbox_1_2 v6 hr1603) (aa g2 (aa (lenr encB v6) (aa g3 (aa (lene GMConf.enc vbox_1_2.masters) (aa (c_s_WrrOk r1603.1 vbox_1_2 hr1711) (aa (lene GDone.enc v5) (aa (lene encB v6) (aa (lene GMConf.enc vbox_1_2.masters) tt))))))))))))) (c_w_FnFair__J5 x0 _ ih _ _ _ _ _ _ _ _ h) (by kernel_rfl) (by kernel_rfl)
    · exact cutT [((1, 1), (1, 2)), ((1, 2), (1, 3)), ((1, 3), (1, 4)), ((1, 4), (1, 5))] 13 [.res (il r1402) [.undef, .undef], .t false, .num (v5.map GDone.enc).length 0 0 [], .num (v6.map encB).length 0 0 [], .num (vbox_1_2.masters.map GMConf.enc).length 0 0 []] (aa (c_w_at x0 0 hr1402) (aa g1 (aa (lene GDone.enc v5) (aa (lene encB v6) (aa (lene GMConf.enc vbox_1_2.masters) tt))))) (c_w_FnFair__L3 x0 _ _ _ _ _ h) (by kernel_rfl) (by kernel_rfl)

theorem c_w_FnFair__L1 (x0 : List Int) {r : Bool} : ∀ (m : Nat) (vbox_1_1 : GWrr) (vbox_1_2 : GConf) (v6 : List Bool) (v7 : Int), p_w_FnFair__L1 x0  m vbox_1_1 vbox_1_2 v6 v7 = some r → SX Try.prog (R_w_FnFair x0 r) (at_ [1, 1, 1, 1, 1, 1, 0, 1, 0] (bodyOf Try.f13) []) .normal (mkS [(0, .tr (x0.map encU)), (3, .ptr (1, 1) 0 0), (4, .ptr (1, 2) 0 0), (5, .sl (1, 4) 0 ([].map GDone.enc).length), (6, .sl (1, 5) 0 (v6.map encB).length), (7, il v7)] [((1, 1), ⟨true, true, true, 0, [(GWrr.enc vbox_1_1)]⟩), ((1, 3), ⟨false, true, true, 115, vbox_1_2.masters.map GMConf.enc⟩), ((1, 2), ⟨true, true, true, 0, [[.sl (1, 3) 0 (vbox_1_2.masters.map GMConf.enc).length, il vbox_1_2.quantum, il vbox_1_2.maxWait, il vbox_1_2.maxRetry, il vbox_1_2.maxSplit, il vbox_1_2.lockMost]]⟩), ((1, 4), ⟨false, true, true, 87, [].map GDone.enc⟩), ((1, 5), ⟨false, true, true, 4, v6.map encB⟩)] 1) := by
  intro m
  induction m with
  | zero => intro vbox_1_1 vbox_1_2 v6 v7 h; cases h
  | succ m ih =>
    intro vbox_1_1 vbox_1_2 v6 v7 h
    replace h : p_w_FnFair__L1b x0  _ vbox_1_1 vbox_1_2 v6 v7 = some r := h
    unfold p_w_FnFair__L1b at h
    rcases ite_some h with ⟨g1, h⟩ | ⟨g1, h⟩
    · obtain ⟨a1102, ha1102, h⟩ := bnd_some h
      obtain ⟨y1103, hy1103, h⟩ := bnd_some h
      exact cutT [((1, 1), (1, 1)), ((1, 2), (1, 2)), ((1, 3), (1, 3)), ((1, 4), (1, 4)), ((1, 5), (1, 5))] 11 [.num v6.length 0 0 [], .t true, .row (v7 : Int).toNat (encB a1102), .put (encB a1102) (y1103.map encB), .num ([].map GDone.enc).length 0 0 [], .num (y1103.map encB).length 0 0 [], .num (vbox_1_2.masters.map GMConf.enc).length 0 0 []] (aa (lenr encB v6) (aa g1 (aa (ixn ha1102) (aa (ixl encB ha1102) (aa (ixr encB ha1102) (aa (ixr encB ha1102) (aa (seto encB hy1103) (aa (lene GDone.enc []) (aa (setl encB hy1103) (aa (lene GMConf.enc vbox_1_2.masters) tt)))))))))) (ih _ _ _ _ h) (by kernel_rfl) (by kernel_rfl)
    · exact cutT [((1, 1), (1, 1)), ((1, 2), (1, 2)), ((1, 3), (1, 3)), ((1, 4), (1, 4)), ((1, 5), (1, 5))] 15 [.num v6.length 0 0 [], .t false, .num ([].map GDone.enc).length 0 0 [], .num (v6.map encB).length 0 0 [], .num (vbox_1_2.masters.map GMConf.enc).length 0 0 []] (aa (lenr encB v6) (aa g1 (aa (lene GDone.enc []) (aa (lene encB v6) (aa (lene GMConf.enc vbox_1_2.masters) tt))))) (c_w_FnFair__L2 x0 _ _ _ _ _ _ h) (by kernel_rfl) (by kernel_rfl)

theorem c_w_FnFair (x0 : List Int) {r : Bool} (h : p_w_FnFair x0 = some r) : Fine Try.prog Mo (13, [.tr (x0.map encU)], bl r, [.undef]) := by
  refine fineT Try.func13 rfl (by kernel_rfl) ?_
  unfold p_w_FnFair at h
  obtain ⟨r101, hr101, h⟩ := bnd_some h
  rcases ite_some h with ⟨g1, h⟩ | ⟨g1, h⟩
  · have e := Option.some.inj h; subst e
    exact retT 100000 [.res (bl r101) [.undef], .t true] (aa (c_w_big x0 hr101) (aa g1 tt)) (by kernel_rfl)
  · obtain ⟨r301, hr301, h⟩ := bnd_some h
    obtain ⟨r402, hr402, h⟩ := bnd_some h
    rcases ite_some h with ⟨g2, h⟩ | ⟨g2, h⟩
    · obtain ⟨r502, hr502, h⟩ := bnd_some h
      have e := Option.some.inj h; subst e
      exact retT 100000 [.res (bl r101) [.undef], .t false, .res (.tup [.agg (GWrr.enc r301.1), .agg [.own 115 (r301.2.masters.map GMConf.enc), il r301.2.quantum, il r301.2.maxWait, il r301.2.maxRetry, il r301.2.maxSplit, il r301.2.lockMost]]) [.undef], .k, .res (bl r402) [.undef, .undef], .t true, .k, .res (bl r502) [.undef, .undef]] (aa (c_w_big x0 hr101) (aa g1 (aa (c_s_DrawWrrOk x0 hr301) (aa (lene GMConf.enc r301.2.masters) (aa (c_s_WrrOk r301.1 r301.2 hr402) (aa g2 (aa (lene GMConf.enc r301.2.masters) (aa (c_i_WrrOk r301.1 r301.2 hr502) tt)))))))) (by kernel_rfl)
    · obtain ⟨m703, hm703, h⟩ := bnd_some h
      exact cutT [((1, 1), (3, 5120)), ((1, 2), (3, 6144)), ((1, 3), (3, 1088)), ((1, 4), (5, 0)), ((1, 5), (6, 3072))] 22 [.res (bl r101) [.undef], .t false, .res (.tup [.agg (GWrr.enc r301.1), .agg [.own 115 (r301.2.masters.map GMConf.enc), il r301.2.quantum, il r301.2.maxWait, il r301.2.maxRetry, il r301.2.maxSplit, il r301.2.lockMost]]) [.undef], .k, .res (bl r402) [.undef, .undef], .t false, .num r301.2.masters.length 0 0 [], .mk ((r301.2.masters.length : Int) : Int).toNat (m703.map encB), .num ([].map GDone.enc).length 0 0 [], .num (m703.map encB).length 0 0 [], .num (r301.2.masters.map GMConf.enc).length 0 0 []] (aa (c_w_big x0 hr101) (aa g1 (aa (c_s_DrawWrrOk x0 hr301) (aa (lene GMConf.enc r301.2.masters) (aa (c_s_WrrOk r301.1 r301.2 hr402) (aa g2 (aa (lenr GMConf.enc r301.2.masters) (aa (mkn hm703) (aa (mkn hm703) (aa (mkl hm703) (aa (mkr encB hm703) (aa (show 0 = ([].map GDone.enc).length from rfl) (aa (lene encB m703) (aa (lene GMConf.enc r301.2.masters) tt)))))))))))))) (c_w_FnFair__L1 x0 _ _ _ _ _ h) (by kernel_rfl) (by kernel_rfl)

abbrev R_w_FnExactSpread (x0 : GConf) (x1 : List GDone) (x2 : Int) (x3 : Int) (r : Bool) : Ex → St → Prop := RetC Try.prog Mo 14 Try.f14 [.agg (GConf.enc x0), .tr (x1.map GDone.enc), il x2, il x3] (bl r, [.undef, .undef, .undef, .undef])

theorem c_w_FnExactSpread (x0 : GConf) (x1 : List GDone) (x2 : Int) (x3 : Int) {r : Bool} (h : p_w_FnExactSpread x0 x1 x2 x3 = some r) : Fine Try.prog Mo (14, [.agg (GConf.enc x0), .tr (x1.map GDone.enc), il x2, il x3], bl r, [.undef, .undef, .undef, .undef]) := by
  refine fineT Try.func14 rfl (by kernel_rfl) ?_
  unfold p_w_FnExactSpread at h
  obtain ⟨r202, hr202, h⟩ := bnd_some h
  rcases ite_some h with ⟨g1, h⟩ | ⟨g1, h⟩
  · have e := Option.some.inj h; subst e
    exact retT 100000 [.res (il r202) [.undef, .undef], .t true] (aa (c_w_szConf x0 1048576 hr202) (aa g1 tt)) (by kernel_rfl)
  · obtain ⟨r502, hr502, h⟩ := bnd_some h
    rcases ite_some h with ⟨g2, h⟩ | ⟨g2, h⟩
    · have e := Option.some.inj h; subst e
      exact retT 100000 [.res (il r202) [.undef, .undef], .t false, .res (il r502) [.undef, .undef], .t true] (aa (c_w_szConf x0 1048576 hr202) (aa g1 (aa (c_w_szDoneS x1 r202 hr502) (aa g2 tt)))) (by kernel_rfl)
    · obtain ⟨r801, hr801, h⟩ := bnd_some h
      obtain ⟨r803, hr803, h⟩ := bnd_some h
      obtain ⟨r806, hr806, h⟩ := bnd_some h
      obtain ⟨r901, hr901, h⟩ := bnd_some h
      obtain ⟨r1001, hr1001, h⟩ := bnd_some h
      obtain ⟨r1104, hr1104, h⟩ := bnd_some h
      rcases ite_some h with ⟨g3, h⟩ | ⟨g3, h⟩
      · have e := Option.some.inj h; subst e
        exact retT 100000 [.res (il r202) [.undef, .undef], .t false, .res (il r502) [.undef, .undef], .t false, .res (.agg [.own 115 (r801.masters.map GMConf.enc), il r801.quantum, il r801.maxWait, il r801.maxRetry, il r801.maxSplit, il r801.lockMost]) [.undef], .res (.own 87 (r803.map GDone.enc)) [.undef], .k, .k, .res (il r806) [.undef, .undef, .undef, .undef], .res (.agg [.own 115 (r901.masters.map GMConf.enc), il r901.quantum, il r901.maxWait, il r901.maxRetry, il r901.maxSplit, il r901.lockMost]) [.undef], .res (.own 87 (r1001.map GDone.enc)) [.undef], .k, .k, .res (il r1104) [.undef, .undef, .undef, .undef], .t true] (aa (c_w_szConf x0 1048576 hr202) (aa g1 (aa (c_w_szDoneS x1 r202 hr502) (aa g2 (aa (c_w_toConf x0 hr801) (aa (c_w_toDoneS x1 hr803) (aa (lene GMConf.enc r801.masters) (aa (lene GDone.enc r803) (aa (c_s_Spread r801 r803 x2 x3 hr806) (aa (c_w_toConf x0 hr901) (aa (c_w_toDoneS x1 hr1001) (aa (lene GMConf.enc r901.masters) (aa (lene GDone.enc r1001) (aa (c_i_Spread r901 r1001 x2 x3 hr1104) (aa g3 tt))))))))))))))) (by kernel_rfl)
      · obtain ⟨r1402, hr1402, h⟩ := bnd_some h
        obtain ⟨r1403, hr1403, h⟩ := bnd_some h
        rcases ite_some h with ⟨g4, h⟩ | ⟨g4, h⟩
        · have e := Option.some.inj h; subst e
          exact retT 100000 [.res (il r202) [.undef, .undef], .t false, .res (il r502) [.undef, .undef], .t false, .res (.agg [.own 115 (r801.masters.map GMConf.enc), il r801.quantum, il r801.maxWait, il r801.maxRetry, il r801.maxSplit, il r801.lockMost]) [.undef], .res (.own 87 (r803.map GDone.enc)) [.undef], .k, .k, .res (il r806) [.undef, .undef, .undef, .undef], .res (.agg [.own 115 (r901.masters.map GMConf.enc), il r901.quantum, il r901.maxWait, il r901.maxRetry, il r901.maxSplit, il r901.lockMost]) [.undef], .res (.own 87 (r1001.map GDone.enc)) [.undef], .k, .k, .res (il r1104) [.undef, .undef, .undef, .undef], .t false, .res (.agg [.own 115 (r1402.masters.map GMConf.enc), il r1402.quantum, il r1402.maxWait, il r1402.maxRetry, il r1402.maxSplit, il r1402.lockMost]) [.undef], .k, .k, .res (bl r1403) [.undef, .undef], .t true] (aa (c_w_szConf x0 1048576 hr202) (aa g1 (aa (c_w_szDoneS x1 r202 hr502) (aa g2 (aa (c_w_toConf x0 hr801) (aa (c_w_toDoneS x1 hr803) (aa (lene GMConf.enc r801.masters) (aa (lene GDone.enc r803) (aa (c_s_Spread r801 r803 x2 x3 hr806) (aa (c_w_toConf x0 hr901) (aa (c_w_toDoneS x1 hr1001) (aa (lene GMConf.enc r901.masters) (aa (lene GDone.enc r1001) (aa (c_i_Spread r901 r1001 x2 x3 hr1104) (aa g3 (aa (c_w_toConf x0 hr1402) (aa (lene GMConf.enc r901.masters) (aa (lene GMConf.enc r1402.masters) (aa (c_w_eqConf r901 r1402 hr1403) (aa g4 tt)))))))))))))))))))) (by kernel_rfl)
        · obtain ⟨r1602, hr1602, h⟩ := bnd_some h
          obtain ⟨r1603, hr1603, h⟩ := bnd_some h
          rcases ite_some h with ⟨g5, h⟩ | ⟨g5, h⟩
          · have e := Option.some.inj h; subst e
            exact retT 100000 [.res (il r202) [.undef, .undef], .t false, .res (il r502) [.undef, .undef], .t false, .res (.agg [.own 115 (r801.masters.map GMConf.enc), il r801.quantum, il r801.maxWait, il r801.maxRetry, il r801.maxSplit, il r801.lockMost]) [.undef], .res (.own 87 (r803.map GDone.enc)) [.undef], .k, .k, .res (il r806) [.undef, .undef, .undef, .undef], .res (.agg [.own 115 (r901.masters.map GMConf.enc), il r901.quantum, il r901.maxWait, il r901.maxRetry, il r901.maxSplit, il r901.lockMost]) [.undef], .res (.own 87 (r1001.map GDone.enc)) [.undef], .k, .k, .res (il r1104) [.undef, .undef, .undef, .undef], .t false, .res (.agg [.own 115 (r1402.masters.map GMConf.enc), il r1402.quantum, il r1402.maxWait, il r1402.maxRetry, il r1402.maxSplit, il r1402.lockMost]) [.undef], .k, .k, .res (bl r1403) [.undef, .undef], .t false, .res (.own 87 (r1602.map GDone.enc)) [.undef], .k, .k, .res (bl r1603) [.undef, .undef], .t true] (aa (c_w_szConf x0 1048576 hr202) (aa g1 (aa (c_w_szDoneS x1 r202 hr502) (aa g2 (aa (c_w_toConf x0 hr801) (aa (c_w_toDoneS x1 hr803) (aa (lene GMConf.enc r801.masters) (aa (lene GDone.enc r803) (aa (c_s_Spread r801 r803 x2 x3 hr806) (aa (c_w_toConf x0 hr901) (aa (c_w_toDoneS x1 hr1001) (aa (lene GMConf.enc r901.masters) (aa (lene GDone.enc r1001) (aa (c_i_Spread r901 r1001 x2 x3 hr1104) (aa g3 (aa (c_w_toConf x0 hr1402) (aa (lene GMConf.enc r901.masters) (aa (lene GMConf.enc r1402.masters) (aa (c_w_eqConf r901 r1402 hr1403) (aa g4 (aa (c_w_toDoneS x1 hr1602) (aa (lene GDone.enc r1001) (aa (lene GDone.enc r1602) (aa (c_w_eqDoneS r1001 r1602 hr1603) (aa g5 tt))))))))))))))))))))))))) (by kernel_rfl)
          · have e := Option.some.inj h; subst e
            exact retT 100000 [.res (il r202) [.undef, .undef], .t false, .res (il r502) [.undef, .undef], .t false, .res (.agg [.own 115 (r801.masters.map GMConf.enc), il r801.quantum, il r801.maxWait, il r801.maxRetry, il r801.maxSplit, il r801.lockMost]) [.undef], .res (.own 87 (r803.map GDone.enc)) [.undef], .k, .k, .res (il r806) [.undef, .undef, .undef, .undef], .res (.agg [.own 115 (r901.masters.map GMConf.enc), il r901.quantum, il r901.maxWait, il r901.maxRetry, il r901.maxSplit, il r901.lockMost]) [.undef], .res (.own 87 (r1001.map GDone.enc)) [.undef], .k, .k, .res (il r1104) [.undef, .undef, .undef, .undef], .t false, .res (.agg [.own 115 (r1402.masters.map GMConf.enc), il r1402.quantum, il r1402.maxWait, il r1402.maxRetry, il r1402.maxSplit, il r1402.lockMost]) [.undef], .k, .k, .res (bl r1403) [.undef, .undef], .t false, .res (.own 87 (r1602.map GDone.enc)) [.undef], .k, .k, .res (bl r1603) [.undef, .undef], .t false] (aa (c_w_szConf x0 1048576 hr202) (aa g1 (aa (c_w_szDoneS x1 r202 hr502) (aa g2 (aa (c_w_toConf x0 hr801) (aa (c_w_toDoneS x1 hr803) (aa (lene GMConf.enc r801.masters) (aa (lene GDone.enc r803) (aa (c_s_Spread r801 r803 x2 x3 hr806) (aa (c_w_toConf x0 hr901) (aa (c_w_toDoneS x1 hr1001) (aa (lene GMConf.enc r901.masters) (aa (lene GDone.enc r1001) (aa (c_i_Spread r901 r1001 x2 x3 hr1104) (aa g3 (aa (c_w_toConf x0 hr1402) (aa (lene GMConf.enc r901.masters) (aa (lene GMConf.enc r1402.masters) (aa (c_w_eqConf r901 r1402 hr1403) (aa g4 (aa (c_w_toDoneS x1 hr1602) (aa (lene GDone.enc r1001) (aa (lene GDone.enc r1602) (aa (c_w_eqDoneS r1001 r1602 hr1603) (aa g5 tt))))))))))))))))))))))))) (by kernel_rfl)

end Go.Proofs.Ytolbhpampnjinaa.Ev
