/- FnWheelsTurnOfAll: The loop over the turns; the parts joined: the law in the program answers as its function says. -/
import Derived.Test.YtoaekmghlmeflaaO9
import Derived.Test.YtoaekmghlmeflaaO18
import Derived.Test.YtoaekmghlmeflaaO20
import Derived.Test.YtoaekmghlmeflaaO21
import Derived.Test.YtoaekmghlmeflaaO22
import Derived.Test.YtoaekmghlmeflaaO26
import Derived.Test.YtoaekmghlmeflaaO27
import Derived.Test.YtoaekmghlmeflaaO30
import Derived.Test.YtoaekmghlmeflaaO31
import Derived.Test.YtoaekmghlmeflaaO32
import Derived.Test.YtoaekmghlmeflaaO33
import Derived.Test.YtoaekmghlmeflaaO34
import Derived.Test.YtoaekmghlmeflaaO37
import Derived.Test.YtoaekmghlmeflaaO39
import Derived.Test.YtoaekmghlmeflaaO40
import Derived.Test.YtoaekmghlmeflaaO42
import Derived.Test.YtoaekmghlmeflaaO43
import Derived.Test.YtoaekmghlmeflaaO44
import Derived.Test.YtoaekmghlmeflaaO46
import Derived.Test.YtoaekmghlmeflaaO47
import Derived.Test.YtoaekmghlmeflaaO48
namespace Go.Proofs.Ytoaekmghlmeflaa.O
open Go.RowKit Go.Proofs.YtoaekmghlmeflaaW.PrintWords Go.Proofs.YtoaekmghlmeflaaW.PrintLast Go.Proofs.YtoaekmghlmeflaaW.PrintMore
section
attribute [local go_sem] max2_int min2_int max_two min_two max_three min_three max_four min_four
set_option linter.unusedVariables false
set_option maxRecDepth 100000
set_option maxHeartbeats 8000000
set_option linter.unusedSimpArgs false
variable {Aa Ab Ac Ad Ae Af Ag Ah Ai Aj Ak Al Am An Ao Ap Aq Ar As Au Av Aw Ax Ay Az Ba Bb Bc Bd Be Bf Bg Bh Bi Bj Bk Bl Bm Bn Bo Bp Bq Br Bs Bt Bu Bv Bw Bz Ca Cb Cc Cd Ce Cf Cg Ch Ci Cj Ck Cl Cm Cn Co Cp Cq Cr Cs Ct Cu Cv Cw Cx Cy Cz Da Db Dc Dd De Df Dg Dh Di Dj Dk Dl Dm Dn Dp Dq Dr Ds Dt Du Dv Dw Dx Dy Dz Ea Eb Ec Ed Ee Ef Eg Eh Ei Ej Ek El Em En Eo Ep Er Es Et Eu Ew Ex Ey Ez Fa Fb Fc Fd Fe Ff Fg Fh Fi Fj Fk Fl Fm Fn Fo Fp Fq Fr Fs Ft Fu Fv Fw Fy Fz Ga Gb Gc Gd Gf Gg Gh Gi Gj Gk Gl Gm Gn Gp Gq Gr Gs Gu Gv Gw Gx Gy Gz Ha Hb Hc Hd He Hf Hg Hh Hi Hj Hk Hl Hm Hn Ho Hp Hq Hr Hs Ht Hu Hv Hw Hx Hy Hz Ia Ib Ic Ie Ig Ih Ii Ij Ik Il Im Ip Iq Ir Iu Iv Iw Ix Iy Iz Ja Jb Jc Jd Je Jf Jg Jh Ji Jj Jk Jl Jm Jn Jo Jp Jr Jt Ju Jv : Value}
theorem st19 {Q : Exit → Act → World → Prop} {tl : List Value} {w : World} {A2 : Option Addr} {l2 : List S40} {k2 : Nat} {i : Int} (p : 0 ≤ i) (q : i < (l2.length : Int)) (hC : Kd.C k40 w A2 l2.length l2)
  (hK : Shut (∀ (jQ jR : Value) (gb : Nat) (x : World), Below w.heap.size w x → bx x gb 40 (rd_T40 l2 i).f0 (rd_T40 l2 i).f1 → Q .normal ⟨(Aa::Ab::Ac::Ad::Ae::Af::Ag::Ah::Ai::Aj::Ak::Al::Am::An::Ao::Ap::Aq::Ar::As::Au::Av::Aw::Ax::Ay::Az::Ba::Bb::Bc::Bd::Be::Bf::Bg::Bh::Bi::Bj::Bk::Bl::Bm::Bn::Bo::Bp::.pointer (some ⟨gb, 0, none⟩)::Br::Bs::Bt::Bu::Bv::Bw::Bz::Ca::Cb::Cc::Cd::Ce::Cf::Cg::Ch::Ci::Cj::Ck::Cl::Cm::Cn::Co::Cp::Cq::Cr::Cs::Ct::Cu::Cv::Cw::Cx::Cy::Cz::Da::Db::Dc::Dd::De::Df::Dg::Dh::Di::Dj::Dk::Dl::Dm::Dn::Dp::Dq::Dr::Ds::Dt::Du::Dv::Dw::Dx::Dy::Dz::Ea::Eb::Ec::Ed::Ee::Ef::Eg::Eh::Ei::Ej::Ek::El::Em::En::Eo::Ep::Er::Es::Et::Eu::Ew::Ex::Ey::Ez::Fa::Fb::Fc::Fd::Fe::Ff::Fg::Fh::Fi::Fj::Fk::Fl::Fm::Fn::Fo::Fp::Fq::Fr::Fs::Ft::Fu::Fv::Fw::Fy::Fz::Ga::Gb::Gc::Gd::Gf::Gg::Gh::Gi::Gj::Gk::Gl::Gm::Gn::Gp::Gq::Gr::Gs::Gu::Gv::Gw::Gx::Gy::Gz::Ha::Hb::Hc::Hd::He::Hf::Hg::Hh::Hi::Hj::Hk::Hl::Hm::Hn::Ho::Hp::Hq::Hr::Hs::Ht::Hu::Hv::Hw::Hx::Hy::Hz::Ia::Ib::Ic::Ie::Ig::Ih::Ii::Ij::Ik::Il::Im::Ip::Iq::Ir::Iu::Iv::Iw::Ix::Iy::Iz::Ja::Jb::Jc::Jd::Je::Jf::Jg::Jh::Ji::Jj::Jk::Jl::Jm::Jn::Jo::Jp::.slice A2 l2.length k2::Jr::.int .i64 i::Jt::jQ::jR::tl).toArray, []⟩ x)) :
  (ll (lb1 Try.f4)).wp Try.prog Q ⟨(Aa::Ab::Ac::Ad::Ae::Af::Ag::Ah::Ai::Aj::Ak::Al::Am::An::Ao::Ap::Aq::Ar::As::Au::Av::Aw::Ax::Ay::Az::Ba::Bb::Bc::Bd::Be::Bf::Bg::Bh::Bi::Bj::Bk::Bl::Bm::Bn::Bo::Bp::Bq::Br::Bs::Bt::Bu::Bv::Bw::Bz::Ca::Cb::Cc::Cd::Ce::Cf::Cg::Ch::Ci::Cj::Ck::Cl::Cm::Cn::Co::Cp::Cq::Cr::Cs::Ct::Cu::Cv::Cw::Cx::Cy::Cz::Da::Db::Dc::Dd::De::Df::Dg::Dh::Di::Dj::Dk::Dl::Dm::Dn::Dp::Dq::Dr::Ds::Dt::Du::Dv::Dw::Dx::Dy::Dz::Ea::Eb::Ec::Ed::Ee::Ef::Eg::Eh::Ei::Ej::Ek::El::Em::En::Eo::Ep::Er::Es::Et::Eu::Ew::Ex::Ey::Ez::Fa::Fb::Fc::Fd::Fe::Ff::Fg::Fh::Fi::Fj::Fk::Fl::Fm::Fn::Fo::Fp::Fq::Fr::Fs::Ft::Fu::Fv::Fw::Fy::Fz::Ga::Gb::Gc::Gd::Gf::Gg::Gh::Gi::Gj::Gk::Gl::Gm::Gn::Gp::Gq::Gr::Gs::Gu::Gv::Gw::Gx::Gy::Gz::Ha::Hb::Hc::Hd::He::Hf::Hg::Hh::Hi::Hj::Hk::Hl::Hm::Hn::Ho::Hp::Hq::Hr::Hs::Ht::Hu::Hv::Hw::Hx::Hy::Hz::Ia::Ib::Ic::Ie::Ig::Ih::Ii::Ij::Ik::Il::Im::Ip::Iq::Ir::Iu::Iv::Iw::Ix::Iy::Iz::Ja::Jb::Jc::Jd::Je::Jf::Jg::Jh::Ji::Jj::Jk::Jl::Jm::Jn::Jo::Jp::.slice A2 l2.length k2::Jr::.int .i64 i::Jt::Ju::Jv::tl).toArray, []⟩ w := by
  have hu40 := Try.underlying40
  have hu26 := Try.underlying26
  have hB := Below.refl w.heap.size w
  obtain ⟨ad, e, hx0, hx1⟩ := at_T40 hC i p q
  cases e
  replace p := eq_true p
  replace q := eq_true q
  dsimp only [ll, rr, Try.f4, Option.getD, b11, b14, b16, b17, cc1, cc11, cc3, cc9, fb, lb1, lp]
  go_wp2_with (first | ((with_reducible refine gate_dst (N := 41) rfl ?_); (try (refine gate_guard (by rfl) ?_; dsimp only)); refine box_event ?hg (N := 41) ?hd (cs := #[.int .i64 0, .int .i64 0]) (t := 40) ?hr ?_; (case hd => rfl); (case hg => rfl); (case hr => first | (go_simp; done) | (go_simp; rfl)); intro gb hg wz hbox hb; have hgb : w.heap.size ≤ gb := Nat.le_of_eq hg.symm; clear hg; replace hB := hb; have y0 : wz.cell? ⟨gb, 0, none⟩ = some (.int .i64 0) := (blk_cell hbox 0).trans rfl; have y1 : wz.cell? ⟨gb, 1, none⟩ = some (.int .i64 0) := (blk_cell hbox 1).trans rfl; have y2 := blk_frozen hbox 0; have y3 := blk_frozen hbox 1; clear hb))
  exact hK.out _ _ gb _ (below_set (below_set hB hgb) hgb) (blk_put (cs := #[.int .i64 (rd_T40 l2 i).f0, .int .i64 0]) (blk_put (cs := #[.int .i64 0, .int .i64 0]) hbox 0 _ rfl) 1 _ rfl)
end
section
attribute [local go_sem] max2_int min2_int max_two min_two max_three min_three max_four min_four
set_option linter.unusedVariables false
set_option maxRecDepth 100000
set_option maxHeartbeats 8000000
set_option linter.unusedSimpArgs false
variable {Am An Ap As Au Aw Ax Ay Az Ba Bb Bc Bd Be Bf Bg Bh Bi Bj Bk Bl Bm Bn Bp Bw Bz Ca Cb Cc Cd Ce Cf Cg Ch Ci Cj Ck Cl Cm Cn Co Cp Cq Cr Cs Ct Cu Cv Cw Cx Cy Cz Da Db Dc Dd De Df Dg Dh Di Dj Dk Dl Dm Dn Dp Dq Dr Ds Dt Du Dv Dw Dx Dy Dz Ea Eb Ec Ed Ee Ef Eg Eh Ei Ej Ek El Em En Eo Ep Er Es Et Eu Ew Ex Ey Ez Fa Fb Fc Fd Fe Ff Fg Fh Fi Fj Fk Fl Fm Fn Fo Fp Fq Fr Fs Ft Fu Fv Fw Fy Fz Ga Gb Gc Gd Gf Gg Gh Gi Gj Gk Gl Gm Gn Gp Gq Gr Gs Gu Gv Gw Gx Gy Gz Ha Hb Hc Hd He Hf Hg Hh Hi Hj Hk Hl Hm Hn Ho Hp Hq Hr Hs Ht Hu Hv Hw Hx Hy Hz Ia Ib Ic Ie Ig Ih Ii Ij Ik Il Im Ip Iq Ir Iu Iv Iw Ix Iy Iz Ja Jb Jc Jd Je Jf Jg Jh Ji Jj Jk Jl Jm Jn Jo Jp : Value}
def loopF (k : Nat) (a0 a1 : Int) : List S40 → ByteArray → Option (Option ByteArray)
  | [], nw => some (some nw)
  | t::ts, nw => (impl_TurnWheel.f k a0 a1 nw t.f0 t.f1).bind fun p => (impl_FewestTurns.f k a0 a1 nw p.1).bind fun d => if (!p.2 || (!d.2 || ((d.1 != 1) || ((p.1.size : Int) != a0)))) = true then some none else (laws_rng.f k p.1 nw t.f0).bind fun c => if c = true then loopF k a0 a1 ts p.1 else some none
theorem lpt {K : Act → World → Prop} {Q : Exit → Act → World → Prop} {R : Ending → World → Prop} {tl : List Value} {w : World} {g1 g2 g3 g4 g5 : Nat} {a0 a1 b0 b1 d0 d1 m0 m1 n0 n1 rk : Int} {A2 : Option Addr} {l2 : List S40} {k2 : Nat} {s1 s4 s7 s8 : ByteArray} {k : Nat} {res : Option ByteArray} (hF : Fx w g1 g2 g3 g4 g5 a0 a1 b0 b1 d0 d1 m0 m1 n0 n1 A2 l2) (hk2 : l2.length ≤ k2) (hQ : ∀ a w, bodyPost Try.prog Try.f4 R .ret a w → Q .ret a w) (hQp : ∀ (c : List PanicEntry) (a : Act) (N : Option Tmp) (v : Value) (w : World), Q (.panic c) (a.put N v) w → Q (.panic c) a w)
  (hK : ∀ nw : ByteArray, res = some nw → ∀ (bP bQ bR bS bT bU jP jQ jR jS jT jU jV jW jX jY jZ kA kB kC kD kE kF kG kH kI kJ kK kL kM kO kP kQ kR kS kT kU kV kW kX kY kZ lA lB lC lD lE lF lG lH lI lJ lK lL lM lN lO lP lQ jO : Value) (x : World), Below w.heap.size w x → K ⟨(.agg #[.int .i64 a0, .int .i64 a1]::.string s1::.slice A2 l2.length k2::.agg #[.int .i64 b0, .int .i64 b1]::.string s4::.agg #[.int .i64 d0, .int .i64 d1]::.agg #[.int .i64 m0, .int .i64 m1]::.string s7::.string s8::.agg #[.int .i64 n0, .int .i64 n1]::.int .i64 rk::.pointer (some ⟨g1, 0, none⟩)::Am::An::.pointer (some ⟨g2, 0, none⟩)::Ap::.pointer (some ⟨g3, 0, none⟩)::.pointer (some ⟨g4, 0, none⟩)::As::Au::.pointer (some ⟨g5, 0, none⟩)::Aw::Ax::Ay::Az::Ba::Bb::Bc::Bd::Be::Bf::Bg::Bh::Bi::Bj::Bk::Bl::Bm::Bn::.string nw::Bp::bP::bQ::bR::bS::bT::bU::Bw::Bz::Ca::Cb::Cc::Cd::Ce::Cf::Cg::Ch::Ci::Cj::Ck::Cl::Cm::Cn::Co::Cp::Cq::Cr::Cs::Ct::Cu::Cv::Cw::Cx::Cy::Cz::Da::Db::Dc::Dd::De::Df::Dg::Dh::Di::Dj::Dk::Dl::Dm::Dn::Dp::Dq::Dr::Ds::Dt::Du::Dv::Dw::Dx::Dy::Dz::Ea::Eb::Ec::Ed::Ee::Ef::Eg::Eh::Ei::Ej::Ek::El::Em::En::Eo::Ep::Er::Es::Et::Eu::Ew::Ex::Ey::Ez::Fa::Fb::Fc::Fd::Fe::Ff::Fg::Fh::Fi::Fj::Fk::Fl::Fm::Fn::Fo::Fp::Fq::Fr::Fs::Ft::Fu::Fv::Fw::Fy::Fz::Ga::Gb::Gc::Gd::Gf::Gg::Gh::Gi::Gj::Gk::Gl::Gm::Gn::Gp::Gq::Gr::Gs::Gu::Gv::Gw::Gx::Gy::Gz::Ha::Hb::Hc::Hd::He::Hf::Hg::Hh::Hi::Hj::Hk::Hl::Hm::Hn::Ho::Hp::Hq::Hr::Hs::Ht::Hu::Hv::Hw::Hx::Hy::Hz::Ia::Ib::Ic::Ie::Ig::Ih::Ii::Ij::Ik::Il::Im::Ip::Iq::Ir::Iu::Iv::Iw::Ix::Iy::Iz::Ja::Jb::Jc::Jd::Je::Jf::Jg::Jh::Ji::Jj::Jk::Jl::Jm::Jn::Jo::Jp::.slice A2 l2.length k2::.int .i64 (l2.length : Int)::jO::jP::jQ::jR::jS::jT::jU::jV::jW::jX::jY::jZ::kA::kB::kC::kD::kE::kF::kG::kH::kI::kJ::kK::kL::kM::kO::kP::kQ::kR::kS::kT::kU::kV::kW::kX::kY::kZ::lA::lB::lC::lD::lE::lF::lG::lH::lI::lJ::lK::lL::lM::lN::lO::lP::lQ::tl).toArray, []⟩ x) (hR : res = none → ∀ x : World, Below w.heap.size w x → R (.returned (.bool false)) x) :
  ∀ (ts : List S40) (i : Nat) (nw : ByteArray) (v41 v42 v43 v44 v45 v46 v237 v238 v239 v240 v241 v242 v243 v244 v245 v246 v247 v248 v249 v250 v251 v252 v253 v254 v255 v256 v257 v258 v259 v260 v261 v262 v263 v264 v265 v266 v267 v268 v269 v270 v271 v272 v273 v274 v275 v276 v277 v278 v279 v280 v281 v282 v283 v284 v285 v286 v287 v288 v289 : Value) (x : World), l2.drop i = ts → loopF k a0 a1 ts nw = some res → Below w.heap.size w x →
    Code.rounds Try.prog (lp Try.f4) (Exit.inBlock 0 (Exit.then K Q)) (ts.length + 1) ⟨(.agg #[.int .i64 a0, .int .i64 a1]::.string s1::.slice A2 l2.length k2::.agg #[.int .i64 b0, .int .i64 b1]::.string s4::.agg #[.int .i64 d0, .int .i64 d1]::.agg #[.int .i64 m0, .int .i64 m1]::.string s7::.string s8::.agg #[.int .i64 n0, .int .i64 n1]::.int .i64 rk::.pointer (some ⟨g1, 0, none⟩)::Am::An::.pointer (some ⟨g2, 0, none⟩)::Ap::.pointer (some ⟨g3, 0, none⟩)::.pointer (some ⟨g4, 0, none⟩)::As::Au::.pointer (some ⟨g5, 0, none⟩)::Aw::Ax::Ay::Az::Ba::Bb::Bc::Bd::Be::Bf::Bg::Bh::Bi::Bj::Bk::Bl::Bm::Bn::.string nw::Bp::v41::v42::v43::v44::v45::v46::Bw::Bz::Ca::Cb::Cc::Cd::Ce::Cf::Cg::Ch::Ci::Cj::Ck::Cl::Cm::Cn::Co::Cp::Cq::Cr::Cs::Ct::Cu::Cv::Cw::Cx::Cy::Cz::Da::Db::Dc::Dd::De::Df::Dg::Dh::Di::Dj::Dk::Dl::Dm::Dn::Dp::Dq::Dr::Ds::Dt::Du::Dv::Dw::Dx::Dy::Dz::Ea::Eb::Ec::Ed::Ee::Ef::Eg::Eh::Ei::Ej::Ek::El::Em::En::Eo::Ep::Er::Es::Et::Eu::Ew::Ex::Ey::Ez::Fa::Fb::Fc::Fd::Fe::Ff::Fg::Fh::Fi::Fj::Fk::Fl::Fm::Fn::Fo::Fp::Fq::Fr::Fs::Ft::Fu::Fv::Fw::Fy::Fz::Ga::Gb::Gc::Gd::Gf::Gg::Gh::Gi::Gj::Gk::Gl::Gm::Gn::Gp::Gq::Gr::Gs::Gu::Gv::Gw::Gx::Gy::Gz::Ha::Hb::Hc::Hd::He::Hf::Hg::Hh::Hi::Hj::Hk::Hl::Hm::Hn::Ho::Hp::Hq::Hr::Hs::Ht::Hu::Hv::Hw::Hx::Hy::Hz::Ia::Ib::Ic::Ie::Ig::Ih::Ii::Ij::Ik::Il::Im::Ip::Iq::Ir::Iu::Iv::Iw::Ix::Iy::Iz::Ja::Jb::Jc::Jd::Je::Jf::Jg::Jh::Ji::Jj::Jk::Jl::Jm::Jn::Jo::Jp::.slice A2 l2.length k2::.int .i64 (l2.length : Int)::.int .i64 (i : Int)::v237::v238::v239::v240::v241::v242::v243::v244::v245::v246::v247::v248::v249::v250::v251::v252::v253::v254::v255::v256::v257::v258::v259::v260::v261::v262::v263::v264::v265::v266::v267::v268::v269::v270::v271::v272::v273::v274::v275::v276::v277::v278::v279::v280::v281::v282::v283::v284::v285::v286::v287::v288::v289::tl).toArray, []⟩ x := by
  intro ts
  induction ts with
  | nil =>
    intro i nw v41 v42 v43 v44 v45 v46 v237 v238 v239 v240 v241 v242 v243 v244 v245 v246 v247 v248 v249 v250 v251 v252 v253 v254 v255 v256 v257 v258 v259 v260 v261 v262 v263 v264 v265 v266 v267 v268 v269 v270 v271 v272 v273 v274 v275 v276 v277 v278 v279 v280 v281 v282 v283 v284 v285 v286 v287 v288 v289 x hd h hB
    have hi : l2.length ≤ i := by have := congrArg List.length hd; simp at this; omega
    refine (wp_seq (st18 ?_) : (Code.seq (ll (lp Try.f4)) (Code.seq (Code.cond (.tmp 237) .skip (.exit 0)) (Code.seq (Code.block 1 (lb1 Try.f4)) (rr (rr (rr (lp Try.f4))))))).wp _ _ _ _)
    rw [show decide ((i : Int) < (l2.length : Int)) = false from decide_eq_false (by omega)]
    refine wp_seq (wp_cond_false rfl (wp_exit ?_))
    show Exit.inBlock 0 (Exit.then K Q) (.exit 0) _ _
    refine inBlock_exit ?_
    exact hK nw (Option.some.inj h).symm _ _ _ _ _ _ _ _ _ _ _ _ _ _ _ _ _ _ _ _ _ _ _ _ _ _ _ _ _ _ _ _ _ _ _ _ _ _ _ _ _ _ _ _ _ _ _ _ _ _ _ _ _ _ _ _ _ _ _  _ _ hB
  | cons t ts ih =>
    intro i nw v41 v42 v43 v44 v45 v46 v237 v238 v239 v240 v241 v242 v243 v244 v245 v246 v247 v248 v249 v250 v251 v252 v253 v254 v255 v256 v257 v258 v259 v260 v261 v262 v263 v264 v265 v266 v267 v268 v269 v270 v271 v272 v273 v274 v275 v276 v277 v278 v279 v280 v281 v282 v283 v284 v285 v286 v287 v288 v289 x hd h hB
    have hi : i < l2.length := by have := congrArg List.length hd; simp at this; omega
    have ht : rd_T40 l2 (i : Int) = t := by
      have h1 : l2[i]? = some t := by rw [← List.head?_drop, hd]; rfl
      simp [rd_T40, List.getD_eq_getElem?_getD, h1]
    have hd2 : l2.drop (i + 1) = ts := by rw [← List.tail_drop, hd]; rfl
    have hFx := hF.below hB
    have hmax : l2.length ≤ 9223372036854775807 := Kd.C_max hF.hC
    refine (wp_seq (st18 ?_) : (Code.seq (ll (lp Try.f4)) (Code.seq (Code.cond (.tmp 237) .skip (.exit 0)) (Code.seq (Code.block 1 (lb1 Try.f4)) (rr (rr (rr (lp Try.f4))))))).wp _ _ _ _)
    rw [show decide ((i : Int) < (l2.length : Int)) = true from decide_eq_true (by omega)]
    refine wp_seq (wp_cond_true rfl (wp_skip (wp_seq (wp_block ?_))))
    refine (wp_seq (st19 (i := (i : Int)) (Int.natCast_nonneg i) (by omega) hFx.hC ?_) : (Code.seq (ll (lb1 Try.f4)) (rr (lb1 Try.f4))).wp _ _ _ _)
    unfold Shut
    intro jQ jR gb x1 hB1 hG
    rw [ht] at hG
    unfold loopF at h
    obtain ⟨⟨nx, v43x⟩, h1, h⟩ := Option.bind_eq_some_iff.mp h
    obtain ⟨⟨v44x, v45x⟩, h2, h⟩ := Option.bind_eq_some_iff.mp h
    refine st20 (k := k) (hFx.below hB1) hk2 hG h1 h2 ?_
    unfold Shut
    intro jS jT jU jV jW jX jY jZ kA kB kC kD kE kF x2 hB2 hF2 hG2
    have hB3 := below_step (below_step hB hB1) hB2
    refine (wp_seq (wp_seq (st22 hF2.h1.c0 hF2.h1.c1 (hF2.h1.f 0) (hF2.h1.f 1) _ rfl ?_)) : (Code.seq (Code.seq (r22 Try.f4) (dd22 Try.f4)) (lb24 Try.f4)).wp _ _ _ _)
    intro kG kH kI kJ kK kL kM kO kP kQ kR kS kT kU kV kW
    refine cd22 (R := R) _ rfl rfl (fun a w h => hQ a w h) (fun hb => ?_) (fun hb => ?_)
    · rw [if_pos hb] at h; exact hR (Option.some.inj h).symm _ hB3
    · rw [if_neg (by rw [hb]; decide)] at h
      obtain ⟨c, h3, h⟩ := Option.bind_eq_some_iff.mp h
      refine st24 (R := R) (fun a w h => hQ a w h) (fun c a N v w h => hQp c a N v w h) hG2 h3 ?_ ?_
      · intro hc bU kY kZ lA lB lC lD lE lF lG lH lI lJ lK lL lM lN lO lP x3 hB4
        rw [if_pos hc] at h
        refine (st30 ?_ : (rr (rr (rr (lp Try.f4)))).wp _ _ _ _)
        rw [show wrap64 ((i : Int) + 1) = ((i + 1 : Nat) : Int) by unfold wrap64; omega]
        exact ih (i + 1) nx _ _ _ _ _ _ _ _ _ _ _ _ _ _ _ _ _ _ _ _ _ _ _ _ _ _ _ _ _ _ _ _ _ _ _ _ _ _ _ _ _ _ _ _ _ _ _ _ _ _ _ _ _ _ _ _ _ _ _  _ hd2 h (below_step hB3 hB4)
      · intro hc x3 hB4
        rw [if_neg (by rw [hc]; decide)] at h
        exact hR (Option.some.inj h).symm _ (below_step hB3 hB4)
end
section
attribute [local go_sem] max2_int min2_int max_two min_two max_three min_three max_four min_four
set_option linter.unusedVariables false
set_option maxRecDepth 100000
set_option maxHeartbeats 8000000
set_option linter.unusedSimpArgs false

/-- The last question: the number of the code that has the number rk is rk. -/
def wF5 (k : Nat) (n0 n1 rk : Int) (v63 : ByteArray) (v64 : Bool) (v71 : Int) (v72 : Bool) : Option Bool :=
  if v64 = true then (impl_NumberOfCode.f k n0 n1 v63).bind fun h => some (h.2 && ((h.1 == rk) && (v72 && decide (rk < v71)))) else some true
def wF4 (k : Nat) (m0 m1 n0 n1 rk : Int) (s7 s8 : ByteArray) (v51 : ByteArray) (v52 : Bool) (v63 : ByteArray) (v64 : Bool) (v67 : ByteArray) (v71 : Int) (v72 : Bool) : Option Bool :=
  if v52 = true then (impl_AddCodes.f k m0 m1 s8 s7).bind fun o => (impl_FewestTurns.f k m0 m1 s7 v51).bind fun p => (impl_FewestTurns.f k m0 m1 v67 s8).bind fun q =>
    if (!o.2 || ((o.1.toList != v51.toList) || (!p.2 || (!q.2 || (p.1 != q.1))))) = true then some false else wF5 k n0 n1 rk v63 v64 v71 v72
  else wF5 k n0 n1 rk v63 v64 v71 v72
def wF3 (k : Nat) (m0 m1 n0 n1 rk : Int) (s7 s8 : ByteArray) (v51 : ByteArray) (v52 : Bool) (v55 : Int) (v56 : Bool) (v59 : ByteArray) (v63 : ByteArray) (v64 : Bool) (v67 : ByteArray) (v68 : Bool) (v71 : Int) (v72 : Bool) : Option Bool :=
  if v56 = true then (impl_CodeOfNumber.f k m0 m1 v55).bind fun o => (impl_AddCodes.f k m0 m1 s7 v59).bind fun p =>
    if (!o.2 || ((o.1.toList != s7.toList) || (!p.2 || (!v68 || (p.1.toList != v67.toList))))) = true then some false else wF4 k m0 m1 n0 n1 rk s7 s8 v51 v52 v63 v64 v67 v71 v72
  else wF4 k m0 m1 n0 n1 rk s7 s8 v51 v52 v63 v64 v67 v71 v72
def wB2 (v47 : ByteArray) (v48 : Bool) (v49 : ByteArray) (v50 : Bool) (v51 : ByteArray) (v52 : Bool) (v53 : ByteArray) (v54 : Bool) (v55 : Int) (v56 : Bool) (v57 : Int) (v58 : Bool) (v59 : ByteArray) (v60 : Bool) (v61 : ByteArray) (v62 : Bool) (v63 : ByteArray) (v64 : Bool) (v65 : ByteArray) (v66 : Bool) (v67 : ByteArray) (v68 : Bool) (v69 : ByteArray) (v70 : Bool) (v71 : Int) (v72 : Bool) (v73 : Int) (v74 : Bool) : Bool :=
  ((v48 != v50) || ((v47.toList != v49.toList) || ((v52 != v54) || ((v51.toList != v53.toList) || ((v56 != v58) || ((v55 != v57) || ((v60 != v62) || ((v59.toList != v61.toList) || ((v64 != v66) || ((v63.toList != v65.toList) || ((v68 != v70) || ((v67.toList != v69.toList) || ((v72 != v74) || ((v71 != v73) || ((v60 != v56) || (v52 && !v56))))))))))))))))
def wF2 (k : Nat) (b0 b1 d0 d1 m0 m1 n0 n1 rk : Int) (s4 s7 s8 : ByteArray) : Option Bool :=
  (impl_TurnWheel.f k b0 b1 s4 d0 d1).bind fun p1 => (spec_TurnWheel.f k b0 b1 s4 d0 d1).bind fun p2 => (impl_AddCodes.f k m0 m1 s7 s8).bind fun p3 => (spec_AddCodes.f k m0 m1 s7 s8).bind fun p4 =>
  (impl_NumberOfCode.f k m0 m1 s7).bind fun p5 => (spec_NumberOfCode.f k m0 m1 s7).bind fun p6 => (impl_OppositeCode.f k m0 m1 s7).bind fun p7 => (spec_OppositeCode.f k m0 m1 s7).bind fun p8 =>
  (impl_CodeOfNumber.f k n0 n1 rk).bind fun p9 => (spec_CodeOfNumber.f k n0 n1 rk).bind fun p10 => (impl_ZeroCode.f k m0 m1).bind fun p11 => (spec_ZeroCode.f k m0 m1).bind fun p12 =>
  (impl_CountCodes.f k n0 n1).bind fun p13 => (spec_CountCodes.f k n0 n1).bind fun p14 =>
  if wB2 p1.1 p1.2 p2.1 p2.2 p3.1 p3.2 p4.1 p4.2 p5.1 p5.2 p6.1 p6.2 p7.1 p7.2 p8.1 p8.2 p9.1 p9.2 p10.1 p10.2 p11.1 p11.2 p12.1 p12.2 p13.1 p13.2 p14.1 p14.2 = true then some false
  else wF3 k m0 m1 n0 n1 rk s7 s8 p3.1 p3.2 p5.1 p5.2 p7.1 p9.1 p9.2 p11.1 p11.2 p13.1 p13.2
def wF1 (k : Nat) (a0 a1 b0 b1 d0 d1 m0 m1 n0 n1 rk : Int) (s1 : ByteArray) (l2 : List S40) (s4 s7 s8 v23 : ByteArray) (v24 : Bool) (v27 : List S40) : Option Bool :=
  if v24 = true then (impl_TurnWheels.f k a0 a1 v23 v27).bind fun o => (impl_FewestTurns.f k a0 a1 s1 v23).bind fun p =>
    if (!o.2 || ((o.1.toList != s1.toList) || (!p.2 || decide ((l2.length : Int) < p.1)))) = true then some false
    else (loopF k a0 a1 l2 s1).bind fun q => q.elim (some false) fun nw => if (nw.toList != v23.toList) = true then some false else wF2 k b0 b1 d0 d1 m0 m1 n0 n1 rk s4 s7 s8
  else wF2 k b0 b1 d0 d1 m0 m1 n0 n1 rk s4 s7 s8
def wB0 (s1 : ByteArray) (l2 : List S40) (s4 s7 s8 : ByteArray) : Bool :=
  (decide (1048576 < (s1.size : Int)) || (decide (10000 < (l2.length : Int)) || (decide (1048576 < (s4.size : Int)) || (decide (1048576 < (s7.size : Int)) || decide (1048576 < (s8.size : Int))))))
def laws_FnWheelsTurnOfAll.f (k : Nat) (a0 a1 : Int) (s1 : ByteArray) (l2 : List S40) (b0 b1 : Int) (s4 : ByteArray) (d0 d1 m0 m1 : Int) (s7 s8 : ByteArray) (n0 n1 rk : Int) : Option Bool :=
  if wB0 s1 l2 s4 s7 s8 = true then some true else
  (impl_TurnWheels.f k a0 a1 s1 l2).bind fun p1 => (spec_TurnWheels.f k a0 a1 s1 l2).bind fun p2 => (impl_BackTurns.f k a0 a1 l2).bind fun p3 => (spec_BackTurns.f k a0 a1 l2).bind fun p4 =>
  (impl_IsCode.f k a0 a1 s1).bind fun p5 => (spec_IsCode.f k a0 a1 s1).bind fun p6 =>
  if (p1.2 != p2.2) = true then some false else if p1.1.toList = p2.1.toList then
    H9_1 (fun b => if b = true then some false else wF1 k a0 a1 b0 b1 d0 d1 m0 m1 n0 n1 rk s1 l2 s4 s7 s8 p1.1 p1.2 p3.1) k p3.1 p4.1 a0 a1 p1.2 p3.2 p4.2 p5.1 p5.2 p6.1 p6.2
  else some false

end
section
attribute [local go_sem] max2_int min2_int max_two min_two max_three min_three max_four min_four
set_option linter.unusedVariables false
set_option maxRecDepth 100000
set_option maxHeartbeats 8000000
set_option linter.unusedSimpArgs false
variable {Am An Ap As Au Aw Ax Ay Az Ba Bb Bc Bd Be Bf Bg Bh Bi Bj Bk Bl Bm Bn Bo Bp Bq Br Bs Bt Bu Bv Bw Bz Ca Cb Cc Cd Ce Cf Cg Ch Ci Cj Ck Cl Cm Cn Cq Cr Cs Ct Cu Cv Cy Cz Da Db Dc Dd De Df Dg Dh Di Dj Dk Dl Dm Dn Dp Dq Dr Ds Dt Du Dv Dw Dx Dy Dz Ea Eb Ec Ed Ee Ef Eg Eh Ei Ej Ek El Em En Eo Ep Er Es Et Eu Ew Ex Ey Ez Fa Fb Fc Fd Fe Ff Fg Fh Fi Fj Fk Fl Fm Fn Fo Fp Fq Fr Fs Ft Fu Fv Fw Fy Fz Ga Gb Gc Gd Gf Gg Gh Gi Gj Gk Gl Gm Gn Gp Gq Gr Gs Gu Gv Gw Gx Gy Gz Ha Hb Hc Hd He Hf Hg Hh Hi Hj Hk Hl Hm Hn Ho Hp Hq Hr Hs Ht Hu Hv Hw Hx Hy Hz Ia Ib Ic Ie Ig Ih Ii Ij Ik Il Im Ip Iq Ir Iu Iv Iw Ix Iy Iz Ja Jb Jc Jd Je Jf Jg Jh Ji Jj Jk Jl Jm Jn Jo Jp Jq Jr Js Jt Ju Jv Jw Jx Jy Jz Ka Kb Kc Ke Kf Kg Kh Ki Kj Kk Kl Km Kn Ko Kp Kq Kr Ks Kt Ku Kv Kw Kx Ky Kz La Lb Lc Ld Lf Lg Lh Li Lj Lk Ll Lm Ln Lo Lp Lq Lr Ls Lu Lv Lw Lx Ly Lz Ma Mb Mc Md Me Mf Mg Mh Mi Mj Mk Ml Mm Mn Mo Mp Mq Mr Ms Mt Mu Mv Mw Mx My Mz Na Nb Nc Nd Nf Ng Nh Ni Nj Nk Nl Nm Nn Np Nq Nr Ns Nt Nu Nv Nw Nx Ny Nz Oa Ob Od Oe Og Oh Oi Oj Ok Ol Om Oo Oq Os Ot Ou Ov Ow Ox Oy Oz Pa Pb Pc Pd Pe Pf Pg Ph Pi Pj Pk Pl Pm Pn Po Pp Pq Pr Ps Pt Pu Pv Pw Px Py Pz Qa Qb Qc Qd Qe Qf Qg Qh Qi Qj Qk Ql Qm Qn Qo Qp Qq Qr Qs Qt Qu Qv Qw Qx Qy Qz Ra Rb Rc Rd Re Rf Rg Rh Ri Rj Rk Rl Rm Rn Ro Rp Rq Rr Rs Rt Ru Rv Rw Rx Ry Rz Sa Sb Sc Sd Se Sf Sg Sh Si Sj Sk Sl Sm Sn So Sp Sq Sr Ss St Su Sv Sw Sx Sy Sz Ta Tb Tc Td Te Tf Tg Th Ti Tj Tk Tl Tm Tn To Tp Tq Tr Ts Tt Tu Tv Tw Tx Ty Tz Ua Ub Uc Ud Ue Uf Ug Uh Ui Uj Uk Ul Um Un Uo Up Uq Ur Us Ut Uu Uv Uw Ux Uy Uz Va Vb Vc Vd Ve Vf Vg Vh Vi Vj Vk Vl Vm Vn Vo Vp Vq Vr Vs Vt Vu Vv Vw Vx Vy Vz Wa Wb Wc Wd We Wf Wg Wh : Value}
theorem p60 {R : Ending → World → Prop} {tl : List Value} {w : World} {k : Nat} {r : Bool} {g1 g2 g3 g4 g5 : Nat} {a0 a1 b0 b1 d0 d1 m0 m1 n0 n1 rk : Int} {A2 : Option Addr} {l2 : List S40} {k2 : Nat} {s1 s4 s7 s8 : ByteArray} {v63 : ByteArray} {v64 : Bool} {v71 : Int} {v72 : Bool} (hF : Fx w g1 g2 g3 g4 g5 a0 a1 b0 b1 d0 d1 m0 m1 n0 n1 A2 l2) (hk2 : l2.length ≤ k2) (h : wF5 k n0 n1 rk v63 v64 v71 v72 = some r) (hR : ∀ x : World, Below w.heap.size w x → R (.returned (.bool r)) x) :
  (cc60 Try.f4).wp Try.prog (bodyPost Try.prog Try.f4 R) ⟨(.agg #[.int .i64 a0, .int .i64 a1]::.string s1::.slice A2 l2.length k2::.agg #[.int .i64 b0, .int .i64 b1]::.string s4::.agg #[.int .i64 d0, .int .i64 d1]::.agg #[.int .i64 m0, .int .i64 m1]::.string s7::.string s8::.agg #[.int .i64 n0, .int .i64 n1]::.int .i64 rk::.pointer (some ⟨g1, 0, none⟩)::Am::An::.pointer (some ⟨g2, 0, none⟩)::Ap::.pointer (some ⟨g3, 0, none⟩)::.pointer (some ⟨g4, 0, none⟩)::As::Au::.pointer (some ⟨g5, 0, none⟩)::Aw::Ax::Ay::Az::Ba::Bb::Bc::Bd::Be::Bf::Bg::Bh::Bi::Bj::Bk::Bl::Bm::Bn::Bo::Bp::Bq::Br::Bs::Bt::Bu::Bv::Bw::Bz::Ca::Cb::Cc::Cd::Ce::Cf::Cg::Ch::Ci::Cj::Ck::Cl::Cm::Cn::.string v63::.bool v64::Cq::Cr::Cs::Ct::Cu::Cv::.int .i64 v71::.bool v72::Cy::Cz::Da::Db::Dc::Dd::De::Df::Dg::Dh::Di::Dj::Dk::Dl::Dm::Dn::Dp::Dq::Dr::Ds::Dt::Du::Dv::Dw::Dx::Dy::Dz::Ea::Eb::Ec::Ed::Ee::Ef::Eg::Eh::Ei::Ej::Ek::El::Em::En::Eo::Ep::Er::Es::Et::Eu::Ew::Ex::Ey::Ez::Fa::Fb::Fc::Fd::Fe::Ff::Fg::Fh::Fi::Fj::Fk::Fl::Fm::Fn::Fo::Fp::Fq::Fr::Fs::Ft::Fu::Fv::Fw::Fy::Fz::Ga::Gb::Gc::Gd::Gf::Gg::Gh::Gi::Gj::Gk::Gl::Gm::Gn::Gp::Gq::Gr::Gs::Gu::Gv::Gw::Gx::Gy::Gz::Ha::Hb::Hc::Hd::He::Hf::Hg::Hh::Hi::Hj::Hk::Hl::Hm::Hn::Ho::Hp::Hq::Hr::Hs::Ht::Hu::Hv::Hw::Hx::Hy::Hz::Ia::Ib::Ic::Ie::Ig::Ih::Ii::Ij::Ik::Il::Im::Ip::Iq::Ir::Iu::Iv::Iw::Ix::Iy::Iz::Ja::Jb::Jc::Jd::Je::Jf::Jg::Jh::Ji::Jj::Jk::Jl::Jm::Jn::Jo::Jp::Jq::Jr::Js::Jt::Ju::Jv::Jw::Jx::Jy::Jz::Ka::Kb::Kc::Ke::Kf::Kg::Kh::Ki::Kj::Kk::Kl::Km::Kn::Ko::Kp::Kq::Kr::Ks::Kt::Ku::Kv::Kw::Kx::Ky::Kz::La::Lb::Lc::Ld::Lf::Lg::Lh::Li::Lj::Lk::Ll::Lm::Ln::Lo::Lp::Lq::Lr::Ls::Lu::Lv::Lw::Lx::Ly::Lz::Ma::Mb::Mc::Md::Me::Mf::Mg::Mh::Mi::Mj::Mk::Ml::Mm::Mn::Mo::Mp::Mq::Mr::Ms::Mt::Mu::Mv::Mw::Mx::My::Mz::Na::Nb::Nc::Nd::Nf::Ng::Nh::Ni::Nj::Nk::Nl::Nm::Nn::Np::Nq::Nr::Ns::Nt::Nu::Nv::Nw::Nx::Ny::Nz::Oa::Ob::Od::Oe::Og::Oh::Oi::Oj::Ok::Ol::Om::Oo::Oq::Os::Ot::Ou::Ov::Ow::Ox::Oy::Oz::Pa::Pb::Pc::Pd::Pe::Pf::Pg::Ph::Pi::Pj::Pk::Pl::Pm::Pn::Po::Pp::Pq::Pr::Ps::Pt::Pu::Pv::Pw::Px::Py::Pz::Qa::Qb::Qc::Qd::Qe::Qf::Qg::Qh::Qi::Qj::Qk::Ql::Qm::Qn::Qo::Qp::Qq::Qr::Qs::Qt::Qu::Qv::Qw::Qx::Qy::Qz::Ra::Rb::Rc::Rd::Re::Rf::Rg::Rh::Ri::Rj::Rk::Rl::Rm::Rn::Ro::Rp::Rq::Rr::Rs::Rt::Ru::Rv::Rw::Rx::Ry::Rz::Sa::Sb::Sc::Sd::Se::Sf::Sg::Sh::Si::Sj::Sk::Sl::Sm::Sn::So::Sp::Sq::Sr::Ss::St::Su::Sv::Sw::Sx::Sy::Sz::Ta::Tb::Tc::Td::Te::Tf::Tg::Th::Ti::Tj::Tk::Tl::Tm::Tn::To::Tp::Tq::Tr::Ts::Tt::Tu::Tv::Tw::Tx::Ty::Tz::Ua::Ub::Uc::Ud::Ue::Uf::Ug::Uh::Ui::Uj::Uk::Ul::Um::Un::Uo::Up::Uq::Ur::Us::Ut::Uu::Uv::Uw::Ux::Uy::Uz::Va::Vb::Vc::Vd::Ve::Vf::Vg::Vh::Vi::Vj::Vk::Vl::Vm::Vn::Vo::Vp::Vq::Vr::Vs::Vt::Vu::Vv::Vw::Vx::Vy::Vz::Wa::Wb::Wc::Wd::We::Wf::Wg::Wh::tl).toArray, []⟩ w := by
  refine (wp_seq (sq60 v64 ?_) : (Code.seq (ll (cc60 Try.f4)) (cc63 Try.f4)).wp _ _ _ _)
  by_cases hb : v64 = true
  · rw [if_pos hb]
    unfold wF5 at h
    rw [if_pos hb] at h
    obtain ⟨⟨v85, v86⟩, h1, h⟩ := Option.bind_eq_some_iff.mp h
    refine st61 (k := k) hF hk2 h1 ?_
    unfold Shut
    intro vB vC vD vE vF vG x hB hFx
    refine (wp_seq (st62 _ rfl ?_) : (Code.seq (r62 Try.f4) .ret).wp _ _ _ _)
    intro vH vI vJ vK vL vM vN vO vP vQ vR vS vT vU
    exact fin62 (R := R) (fun a w h => h) (by rw [Option.some.inj h]; exact hR _ hB)
  · rw [if_neg hb]
    unfold wF5 at h
    rw [if_neg hb] at h
    exact fin63 (by rw [Option.some.inj h]; exact hR _ (Below.refl _ _))
end
section
attribute [local go_sem] max2_int min2_int max_two min_two max_three min_three max_four min_four
set_option linter.unusedVariables false
set_option maxRecDepth 100000
set_option maxHeartbeats 8000000
set_option linter.unusedSimpArgs false
variable {Am An Ap As Au Aw Ax Ay Az Ba Bb Bc Bd Be Bf Bg Bh Bi Bj Bk Bl Bm Bn Bo Bp Bq Br Bs Bt Bu Bv Bw Bz Ca Cb Ce Cf Cg Ch Ci Cj Ck Cl Cm Cn Cq Cr Ct Cu Cv Cy Cz Da Db Dc Dd De Df Dg Dh Di Dj Dk Dl Dm Dn Dp Dq Dr Ds Dt Du Dv Dw Dx Dy Dz Ea Eb Ec Ed Ee Ef Eg Eh Ei Ej Ek El Em En Eo Ep Er Es Et Eu Ew Ex Ey Ez Fa Fb Fc Fd Fe Ff Fg Fh Fi Fj Fk Fl Fm Fn Fo Fp Fq Fr Fs Ft Fu Fv Fw Fy Fz Ga Gb Gc Gd Gf Gg Gh Gi Gj Gk Gl Gm Gn Gp Gq Gr Gs Gu Gv Gw Gx Gy Gz Ha Hb Hc Hd He Hf Hg Hh Hi Hj Hk Hl Hm Hn Ho Hp Hq Hr Hs Ht Hu Hv Hw Hx Hy Hz Ia Ib Ic Ie Ig Ih Ii Ij Ik Il Im Ip Iq Ir Iu Iv Iw Ix Iy Iz Ja Jb Jc Jd Je Jf Jg Jh Ji Jj Jk Jl Jm Jn Jo Jp Jq Jr Js Jt Ju Jv Jw Jx Jy Jz Ka Kb Kc Ke Kf Kg Kh Ki Kj Kk Kl Km Kn Ko Kp Kq Kr Ks Kt Ku Kv Kw Kx Ky Kz La Lb Lc Ld Lf Lg Lh Li Lj Lk Ll Lm Ln Lo Lp Lq Lr Ls Lu Lv Lw Lx Ly Lz Ma Mb Mc Md Me Mf Mg Mh Mi Mj Mk Ml Mm Mn Mo Mp Mq Mr Ms Mt Mu Mv Mw Mx My Mz Na Nb Nc Nd Nf Ng Nh Ni Nj Nk Nl Nm Nn Np Nq Nr Ns Nt Nu Nv Nw Nx Ny Nz Oa Ob Od Oe Og Oh Oi Oj Ok Ol Om Oo Oq Os Ot Ou Ov Ow Ox Oy Oz Pa Pb Pc Pd Pe Pf Pg Ph Pi Pj Pk Pl Pm Pn Po Pp Pq Pr Ps Pt Pu Pv Pw Px Py Pz Qa Qb Qc Qd Qe Qf Qg Qh Qi Qj Qk Ql Qm Qn Qo Qp Qq Qr Qs Qt Qu Qv Qw Qx Qy Qz Ra Rb Rc Rd Re Rf Rg Rh Ri Rj Rk Rl Rm Rn Ro Rp Rq Rr Rs Rt Ru Rv Rw Rx Ry Rz Sa Sb Sc Sd Se Sf Sg Sh Si Sj Sk Sl Sm Sn So Sp Sq Sr Ss St Su Sv Sw Sx Sy Sz Ta Tb Tc Td Te Tf Tg Th Ti Tj Tk Tl Tm Tn To Tp Tq Tr Ts Tt Tu Tv Tw Tx Ty Tz Ua Ub Uc Ud Ue Uf Ug Uh Ui Uj Uk Ul Um Un Uo Up Uq Ur Us Ut Uu Uv Uw Ux Uy Uz Va Vb Vc Vd Ve Vf Vg Vh Vi Vj Vk Vl Vm Vn Vo Vp Vq Vr Vs Vt Vu Vv Vw Vx Vy Vz Wa Wb Wc Wd We Wf Wg Wh : Value}
theorem p54 {R : Ending → World → Prop} {tl : List Value} {w : World} {k : Nat} {r : Bool} {g1 g2 g3 g4 g5 : Nat} {a0 a1 b0 b1 d0 d1 m0 m1 n0 n1 rk : Int} {A2 : Option Addr} {l2 : List S40} {k2 : Nat} {s1 s4 s7 s8 : ByteArray} {v51 : ByteArray} {v52 : Bool} {v63 : ByteArray} {v64 : Bool} {v67 : ByteArray} {v71 : Int} {v72 : Bool} (hF : Fx w g1 g2 g3 g4 g5 a0 a1 b0 b1 d0 d1 m0 m1 n0 n1 A2 l2) (hk2 : l2.length ≤ k2) (h : wF4 k m0 m1 n0 n1 rk s7 s8 v51 v52 v63 v64 v67 v71 v72 = some r) (hR : ∀ x : World, Below w.heap.size w x → R (.returned (.bool r)) x) :
  (cc54 Try.f4).wp Try.prog (bodyPost Try.prog Try.f4 R) ⟨(.agg #[.int .i64 a0, .int .i64 a1]::.string s1::.slice A2 l2.length k2::.agg #[.int .i64 b0, .int .i64 b1]::.string s4::.agg #[.int .i64 d0, .int .i64 d1]::.agg #[.int .i64 m0, .int .i64 m1]::.string s7::.string s8::.agg #[.int .i64 n0, .int .i64 n1]::.int .i64 rk::.pointer (some ⟨g1, 0, none⟩)::Am::An::.pointer (some ⟨g2, 0, none⟩)::Ap::.pointer (some ⟨g3, 0, none⟩)::.pointer (some ⟨g4, 0, none⟩)::As::Au::.pointer (some ⟨g5, 0, none⟩)::Aw::Ax::Ay::Az::Ba::Bb::Bc::Bd::Be::Bf::Bg::Bh::Bi::Bj::Bk::Bl::Bm::Bn::Bo::Bp::Bq::Br::Bs::Bt::Bu::Bv::Bw::Bz::Ca::Cb::.string v51::.bool v52::Ce::Cf::Cg::Ch::Ci::Cj::Ck::Cl::Cm::Cn::.string v63::.bool v64::Cq::Cr::.string v67::Ct::Cu::Cv::.int .i64 v71::.bool v72::Cy::Cz::Da::Db::Dc::Dd::De::Df::Dg::Dh::Di::Dj::Dk::Dl::Dm::Dn::Dp::Dq::Dr::Ds::Dt::Du::Dv::Dw::Dx::Dy::Dz::Ea::Eb::Ec::Ed::Ee::Ef::Eg::Eh::Ei::Ej::Ek::El::Em::En::Eo::Ep::Er::Es::Et::Eu::Ew::Ex::Ey::Ez::Fa::Fb::Fc::Fd::Fe::Ff::Fg::Fh::Fi::Fj::Fk::Fl::Fm::Fn::Fo::Fp::Fq::Fr::Fs::Ft::Fu::Fv::Fw::Fy::Fz::Ga::Gb::Gc::Gd::Gf::Gg::Gh::Gi::Gj::Gk::Gl::Gm::Gn::Gp::Gq::Gr::Gs::Gu::Gv::Gw::Gx::Gy::Gz::Ha::Hb::Hc::Hd::He::Hf::Hg::Hh::Hi::Hj::Hk::Hl::Hm::Hn::Ho::Hp::Hq::Hr::Hs::Ht::Hu::Hv::Hw::Hx::Hy::Hz::Ia::Ib::Ic::Ie::Ig::Ih::Ii::Ij::Ik::Il::Im::Ip::Iq::Ir::Iu::Iv::Iw::Ix::Iy::Iz::Ja::Jb::Jc::Jd::Je::Jf::Jg::Jh::Ji::Jj::Jk::Jl::Jm::Jn::Jo::Jp::Jq::Jr::Js::Jt::Ju::Jv::Jw::Jx::Jy::Jz::Ka::Kb::Kc::Ke::Kf::Kg::Kh::Ki::Kj::Kk::Kl::Km::Kn::Ko::Kp::Kq::Kr::Ks::Kt::Ku::Kv::Kw::Kx::Ky::Kz::La::Lb::Lc::Ld::Lf::Lg::Lh::Li::Lj::Lk::Ll::Lm::Ln::Lo::Lp::Lq::Lr::Ls::Lu::Lv::Lw::Lx::Ly::Lz::Ma::Mb::Mc::Md::Me::Mf::Mg::Mh::Mi::Mj::Mk::Ml::Mm::Mn::Mo::Mp::Mq::Mr::Ms::Mt::Mu::Mv::Mw::Mx::My::Mz::Na::Nb::Nc::Nd::Nf::Ng::Nh::Ni::Nj::Nk::Nl::Nm::Nn::Np::Nq::Nr::Ns::Nt::Nu::Nv::Nw::Nx::Ny::Nz::Oa::Ob::Od::Oe::Og::Oh::Oi::Oj::Ok::Ol::Om::Oo::Oq::Os::Ot::Ou::Ov::Ow::Ox::Oy::Oz::Pa::Pb::Pc::Pd::Pe::Pf::Pg::Ph::Pi::Pj::Pk::Pl::Pm::Pn::Po::Pp::Pq::Pr::Ps::Pt::Pu::Pv::Pw::Px::Py::Pz::Qa::Qb::Qc::Qd::Qe::Qf::Qg::Qh::Qi::Qj::Qk::Ql::Qm::Qn::Qo::Qp::Qq::Qr::Qs::Qt::Qu::Qv::Qw::Qx::Qy::Qz::Ra::Rb::Rc::Rd::Re::Rf::Rg::Rh::Ri::Rj::Rk::Rl::Rm::Rn::Ro::Rp::Rq::Rr::Rs::Rt::Ru::Rv::Rw::Rx::Ry::Rz::Sa::Sb::Sc::Sd::Se::Sf::Sg::Sh::Si::Sj::Sk::Sl::Sm::Sn::So::Sp::Sq::Sr::Ss::St::Su::Sv::Sw::Sx::Sy::Sz::Ta::Tb::Tc::Td::Te::Tf::Tg::Th::Ti::Tj::Tk::Tl::Tm::Tn::To::Tp::Tq::Tr::Ts::Tt::Tu::Tv::Tw::Tx::Ty::Tz::Ua::Ub::Uc::Ud::Ue::Uf::Ug::Uh::Ui::Uj::Uk::Ul::Um::Un::Uo::Up::Uq::Ur::Us::Ut::Uu::Uv::Uw::Ux::Uy::Uz::Va::Vb::Vc::Vd::Ve::Vf::Vg::Vh::Vi::Vj::Vk::Vl::Vm::Vn::Vo::Vp::Vq::Vr::Vs::Vt::Vu::Vv::Vw::Vx::Vy::Vz::Wa::Wb::Wc::Wd::We::Wf::Wg::Wh::tl).toArray, []⟩ w := by
  refine (wp_seq (sq54 v52 ?_) : (Code.seq (ll (cc54 Try.f4)) (cc60 Try.f4)).wp _ _ _ _)
  by_cases hb : v52 = true
  · rw [if_pos hb]
    unfold wF4 at h
    rw [if_pos hb] at h
    obtain ⟨⟨v79, v80⟩, h1, h⟩ := Option.bind_eq_some_iff.mp h
    obtain ⟨⟨v81, v82⟩, h2, h⟩ := Option.bind_eq_some_iff.mp h
    obtain ⟨⟨v83, v84⟩, h3, h⟩ := Option.bind_eq_some_iff.mp h
    refine st55 (k := k) hF hk2 h1 h2 h3 ?_
    unfold Shut
    intro tL tM tN tO tP tQ tR tS tT tU tV tW tX tY tZ uA uB uC uD uE uF x hB hFx
    refine (wp_seq (st58 _ rfl ?_) : (Code.seq (r58 Try.f4) (dd58 Try.f4)).wp _ _ _ _)
    intro uG uH uI uJ uK uL uM uN uO uP uQ uR uS uT uU uV uW uX uY
    refine cd58 (R := R) _ rfl rfl (fun a w h => h) (fun hc => ?_) (fun hc => ?_)
    · rw [if_pos hc] at h; rw [Option.some.inj h]; exact hR _ hB
    · rw [if_neg (by rw [hc]; decide)] at h; exact p60 hFx hk2 h (fun y hy => hR _ (below_step hB hy))
  · rw [if_neg hb]
    unfold wF4 at h
    rw [if_neg hb] at h
    exact p60 hF hk2 h hR
end
section
attribute [local go_sem] max2_int min2_int max_two min_two max_three min_three max_four min_four
set_option linter.unusedVariables false
set_option maxRecDepth 100000
set_option maxHeartbeats 8000000
set_option linter.unusedSimpArgs false
variable {Am An Ap As Au Aw Ax Ay Az Ba Bb Bc Bd Be Bf Bg Bh Bi Bj Bk Bl Bm Bn Bo Bp Bq Br Bs Bt Bu Bv Bw Bz Ca Cb Ce Cf Ci Cj Cl Cm Cn Cq Cr Cu Cv Cy Cz Da Db Dc Dd De Df Dg Dh Di Dj Dk Dl Dm Dn Dp Dq Dr Ds Dt Du Dv Dw Dx Dy Dz Ea Eb Ec Ed Ee Ef Eg Eh Ei Ej Ek El Em En Eo Ep Er Es Et Eu Ew Ex Ey Ez Fa Fb Fc Fd Fe Ff Fg Fh Fi Fj Fk Fl Fm Fn Fo Fp Fq Fr Fs Ft Fu Fv Fw Fy Fz Ga Gb Gc Gd Gf Gg Gh Gi Gj Gk Gl Gm Gn Gp Gq Gr Gs Gu Gv Gw Gx Gy Gz Ha Hb Hc Hd He Hf Hg Hh Hi Hj Hk Hl Hm Hn Ho Hp Hq Hr Hs Ht Hu Hv Hw Hx Hy Hz Ia Ib Ic Ie Ig Ih Ii Ij Ik Il Im Ip Iq Ir Iu Iv Iw Ix Iy Iz Ja Jb Jc Jd Je Jf Jg Jh Ji Jj Jk Jl Jm Jn Jo Jp Jq Jr Js Jt Ju Jv Jw Jx Jy Jz Ka Kb Kc Ke Kf Kg Kh Ki Kj Kk Kl Km Kn Ko Kp Kq Kr Ks Kt Ku Kv Kw Kx Ky Kz La Lb Lc Ld Lf Lg Lh Li Lj Lk Ll Lm Ln Lo Lp Lq Lr Ls Lu Lv Lw Lx Ly Lz Ma Mb Mc Md Me Mf Mg Mh Mi Mj Mk Ml Mm Mn Mo Mp Mq Mr Ms Mt Mu Mv Mw Mx My Mz Na Nb Nc Nd Nf Ng Nh Ni Nj Nk Nl Nm Nn Np Nq Nr Ns Nt Nu Nv Nw Nx Ny Nz Oa Ob Od Oe Og Oh Oi Oj Ok Ol Om Oo Oq Os Ot Ou Ov Ow Ox Oy Oz Pa Pb Pc Pd Pe Pf Pg Ph Pi Pj Pk Pl Pm Pn Po Pp Pq Pr Ps Pt Pu Pv Pw Px Py Pz Qa Qb Qc Qd Qe Qf Qg Qh Qi Qj Qk Ql Qm Qn Qo Qp Qq Qr Qs Qt Qu Qv Qw Qx Qy Qz Ra Rb Rc Rd Re Rf Rg Rh Ri Rj Rk Rl Rm Rn Ro Rp Rq Rr Rs Rt Ru Rv Rw Rx Ry Rz Sa Sb Sc Sd Se Sf Sg Sh Si Sj Sk Sl Sm Sn So Sp Sq Sr Ss St Su Sv Sw Sx Sy Sz Ta Tb Tc Td Te Tf Tg Th Ti Tj Tk Tl Tm Tn To Tp Tq Tr Ts Tt Tu Tv Tw Tx Ty Tz Ua Ub Uc Ud Ue Uf Ug Uh Ui Uj Uk Ul Um Un Uo Up Uq Ur Us Ut Uu Uv Uw Ux Uy Uz Va Vb Vc Vd Ve Vf Vg Vh Vi Vj Vk Vl Vm Vn Vo Vp Vq Vr Vs Vt Vu Vv Vw Vx Vy Vz Wa Wb Wc Wd We Wf Wg Wh : Value}
theorem p49 {R : Ending → World → Prop} {tl : List Value} {w : World} {k : Nat} {r : Bool} {g1 g2 g3 g4 g5 : Nat} {a0 a1 b0 b1 d0 d1 m0 m1 n0 n1 rk : Int} {A2 : Option Addr} {l2 : List S40} {k2 : Nat} {s1 s4 s7 s8 : ByteArray} {v51 : ByteArray} {v52 : Bool} {v55 : Int} {v56 : Bool} {v59 : ByteArray} {v63 : ByteArray} {v64 : Bool} {v67 : ByteArray} {v68 : Bool} {v71 : Int} {v72 : Bool} (hF : Fx w g1 g2 g3 g4 g5 a0 a1 b0 b1 d0 d1 m0 m1 n0 n1 A2 l2) (hk2 : l2.length ≤ k2) (h : wF3 k m0 m1 n0 n1 rk s7 s8 v51 v52 v55 v56 v59 v63 v64 v67 v68 v71 v72 = some r) (hR : ∀ x : World, Below w.heap.size w x → R (.returned (.bool r)) x) :
  (cc49 Try.f4).wp Try.prog (bodyPost Try.prog Try.f4 R) ⟨(.agg #[.int .i64 a0, .int .i64 a1]::.string s1::.slice A2 l2.length k2::.agg #[.int .i64 b0, .int .i64 b1]::.string s4::.agg #[.int .i64 d0, .int .i64 d1]::.agg #[.int .i64 m0, .int .i64 m1]::.string s7::.string s8::.agg #[.int .i64 n0, .int .i64 n1]::.int .i64 rk::.pointer (some ⟨g1, 0, none⟩)::Am::An::.pointer (some ⟨g2, 0, none⟩)::Ap::.pointer (some ⟨g3, 0, none⟩)::.pointer (some ⟨g4, 0, none⟩)::As::Au::.pointer (some ⟨g5, 0, none⟩)::Aw::Ax::Ay::Az::Ba::Bb::Bc::Bd::Be::Bf::Bg::Bh::Bi::Bj::Bk::Bl::Bm::Bn::Bo::Bp::Bq::Br::Bs::Bt::Bu::Bv::Bw::Bz::Ca::Cb::.string v51::.bool v52::Ce::Cf::.int .i64 v55::.bool v56::Ci::Cj::.string v59::Cl::Cm::Cn::.string v63::.bool v64::Cq::Cr::.string v67::.bool v68::Cu::Cv::.int .i64 v71::.bool v72::Cy::Cz::Da::Db::Dc::Dd::De::Df::Dg::Dh::Di::Dj::Dk::Dl::Dm::Dn::Dp::Dq::Dr::Ds::Dt::Du::Dv::Dw::Dx::Dy::Dz::Ea::Eb::Ec::Ed::Ee::Ef::Eg::Eh::Ei::Ej::Ek::El::Em::En::Eo::Ep::Er::Es::Et::Eu::Ew::Ex::Ey::Ez::Fa::Fb::Fc::Fd::Fe::Ff::Fg::Fh::Fi::Fj::Fk::Fl::Fm::Fn::Fo::Fp::Fq::Fr::Fs::Ft::Fu::Fv::Fw::Fy::Fz::Ga::Gb::Gc::Gd::Gf::Gg::Gh::Gi::Gj::Gk::Gl::Gm::Gn::Gp::Gq::Gr::Gs::Gu::Gv::Gw::Gx::Gy::Gz::Ha::Hb::Hc::Hd::He::Hf::Hg::Hh::Hi::Hj::Hk::Hl::Hm::Hn::Ho::Hp::Hq::Hr::Hs::Ht::Hu::Hv::Hw::Hx::Hy::Hz::Ia::Ib::Ic::Ie::Ig::Ih::Ii::Ij::Ik::Il::Im::Ip::Iq::Ir::Iu::Iv::Iw::Ix::Iy::Iz::Ja::Jb::Jc::Jd::Je::Jf::Jg::Jh::Ji::Jj::Jk::Jl::Jm::Jn::Jo::Jp::Jq::Jr::Js::Jt::Ju::Jv::Jw::Jx::Jy::Jz::Ka::Kb::Kc::Ke::Kf::Kg::Kh::Ki::Kj::Kk::Kl::Km::Kn::Ko::Kp::Kq::Kr::Ks::Kt::Ku::Kv::Kw::Kx::Ky::Kz::La::Lb::Lc::Ld::Lf::Lg::Lh::Li::Lj::Lk::Ll::Lm::Ln::Lo::Lp::Lq::Lr::Ls::Lu::Lv::Lw::Lx::Ly::Lz::Ma::Mb::Mc::Md::Me::Mf::Mg::Mh::Mi::Mj::Mk::Ml::Mm::Mn::Mo::Mp::Mq::Mr::Ms::Mt::Mu::Mv::Mw::Mx::My::Mz::Na::Nb::Nc::Nd::Nf::Ng::Nh::Ni::Nj::Nk::Nl::Nm::Nn::Np::Nq::Nr::Ns::Nt::Nu::Nv::Nw::Nx::Ny::Nz::Oa::Ob::Od::Oe::Og::Oh::Oi::Oj::Ok::Ol::Om::Oo::Oq::Os::Ot::Ou::Ov::Ow::Ox::Oy::Oz::Pa::Pb::Pc::Pd::Pe::Pf::Pg::Ph::Pi::Pj::Pk::Pl::Pm::Pn::Po::Pp::Pq::Pr::Ps::Pt::Pu::Pv::Pw::Px::Py::Pz::Qa::Qb::Qc::Qd::Qe::Qf::Qg::Qh::Qi::Qj::Qk::Ql::Qm::Qn::Qo::Qp::Qq::Qr::Qs::Qt::Qu::Qv::Qw::Qx::Qy::Qz::Ra::Rb::Rc::Rd::Re::Rf::Rg::Rh::Ri::Rj::Rk::Rl::Rm::Rn::Ro::Rp::Rq::Rr::Rs::Rt::Ru::Rv::Rw::Rx::Ry::Rz::Sa::Sb::Sc::Sd::Se::Sf::Sg::Sh::Si::Sj::Sk::Sl::Sm::Sn::So::Sp::Sq::Sr::Ss::St::Su::Sv::Sw::Sx::Sy::Sz::Ta::Tb::Tc::Td::Te::Tf::Tg::Th::Ti::Tj::Tk::Tl::Tm::Tn::To::Tp::Tq::Tr::Ts::Tt::Tu::Tv::Tw::Tx::Ty::Tz::Ua::Ub::Uc::Ud::Ue::Uf::Ug::Uh::Ui::Uj::Uk::Ul::Um::Un::Uo::Up::Uq::Ur::Us::Ut::Uu::Uv::Uw::Ux::Uy::Uz::Va::Vb::Vc::Vd::Ve::Vf::Vg::Vh::Vi::Vj::Vk::Vl::Vm::Vn::Vo::Vp::Vq::Vr::Vs::Vt::Vu::Vv::Vw::Vx::Vy::Vz::Wa::Wb::Wc::Wd::We::Wf::Wg::Wh::tl).toArray, []⟩ w := by
  refine (wp_seq (sq49 v56 ?_) : (Code.seq (ll (cc49 Try.f4)) (cc54 Try.f4)).wp _ _ _ _)
  by_cases hb : v56 = true
  · rw [if_pos hb]
    unfold wF3 at h
    rw [if_pos hb] at h
    obtain ⟨⟨v75, v76⟩, h1, h⟩ := Option.bind_eq_some_iff.mp h
    obtain ⟨⟨v77, v78⟩, h2, h⟩ := Option.bind_eq_some_iff.mp h
    refine st50 (k := k) hF hk2 h1 h2 ?_
    unfold Shut
    intro sD sE sF sG sH sI sJ sK sL sM sN sO sP x hB hFx
    refine (wp_seq (st52 _ rfl ?_) : (Code.seq (r52 Try.f4) (dd52 Try.f4)).wp _ _ _ _)
    intro sQ sR sS sT sU sV sW sX sY sZ tA tB tC tD tE tF tG tH tI
    refine cd52 (R := R) _ rfl rfl (fun a w h => h) (fun hc => ?_) (fun hc => ?_)
    · rw [if_pos hc] at h; rw [Option.some.inj h]; exact hR _ hB
    · rw [if_neg (by rw [hc]; decide)] at h; exact p54 hFx hk2 h (fun y hy => hR _ (below_step hB hy))
  · rw [if_neg hb]
    unfold wF3 at h
    rw [if_neg hb] at h
    exact p54 hF hk2 h hR
end
section
attribute [local go_sem] max2_int min2_int max_two min_two max_three min_three max_four min_four
set_option linter.unusedVariables false
set_option maxRecDepth 100000
set_option maxHeartbeats 8000000
set_option linter.unusedSimpArgs false
variable {Am An Ap As Au Aw Ax Ay Az Ba Bb Bc Bd Be Bf Bg Bh Bi Bj Bk Bl Bm Bn Bo Bp Bq Br Bs Bt Bu Bv Bw Bz Ca Cb Cc Cd Ce Cf Cg Ch Ci Cj Ck Cl Cm Cn Co Cp Cq Cr Cs Ct Cu Cv Cw Cx Cy Cz Da Db Dc Dd De Df Dg Dh Di Dj Dk Dl Dm Dn Dp Dq Dr Ds Dt Du Dv Dw Dx Dy Dz Ea Eb Ec Ed Ee Ef Eg Eh Ei Ej Ek El Em En Eo Ep Er Es Et Eu Ew Ex Ey Ez Fa Fb Fc Fd Fe Ff Fg Fh Fi Fj Fk Fl Fm Fn Fo Fp Fq Fr Fs Ft Fu Fv Fw Fy Fz Ga Gb Gc Gd Gf Gg Gh Gi Gj Gk Gl Gm Gn Gp Gq Gr Gs Gu Gv Gw Gx Gy Gz Ha Hb Hc Hd He Hf Hg Hh Hi Hj Hk Hl Hm Hn Ho Hp Hq Hr Hs Ht Hu Hv Hw Hx Hy Hz Ia Ib Ic Ie Ig Ih Ii Ij Ik Il Im Ip Iq Ir Iu Iv Iw Ix Iy Iz Ja Jb Jc Jd Je Jf Jg Jh Ji Jj Jk Jl Jm Jn Jo Jp Jq Jr Js Jt Ju Jv Jw Jx Jy Jz Ka Kb Kc Ke Kf Kg Kh Ki Kj Kk Kl Km Kn Ko Kp Kq Kr Ks Kt Ku Kv Kw Kx Ky Kz La Lb Lc Ld Lf Lg Lh Li Lj Lk Ll Lm Ln Lo Lp Lq Lr Ls Lu Lv Lw Lx Ly Lz Ma Mb Mc Md Me Mf Mg Mh Mi Mj Mk Ml Mm Mn Mo Mp Mq Mr Ms Mt Mu Mv Mw Mx My Mz Na Nb Nc Nd Nf Ng Nh Ni Nj Nk Nl Nm Nn Np Nq Nr Ns Nt Nu Nv Nw Nx Ny Nz Oa Ob Od Oe Og Oh Oi Oj Ok Ol Om Oo Oq Os Ot Ou Ov Ow Ox Oy Oz Pa Pb Pc Pd Pe Pf Pg Ph Pi Pj Pk Pl Pm Pn Po Pp Pq Pr Ps Pt Pu Pv Pw Px Py Pz Qa Qb Qc Qd Qe Qf Qg Qh Qi Qj Qk Ql Qm Qn Qo Qp Qq Qr Qs Qt Qu Qv Qw Qx Qy Qz Ra Rb Rc Rd Re Rf Rg Rh Ri Rj Rk Rl Rm Rn Ro Rp Rq Rr Rs Rt Ru Rv Rw Rx Ry Rz Sa Sb Sc Sd Se Sf Sg Sh Si Sj Sk Sl Sm Sn So Sp Sq Sr Ss St Su Sv Sw Sx Sy Sz Ta Tb Tc Td Te Tf Tg Th Ti Tj Tk Tl Tm Tn To Tp Tq Tr Ts Tt Tu Tv Tw Tx Ty Tz Ua Ub Uc Ud Ue Uf Ug Uh Ui Uj Uk Ul Um Un Uo Up Uq Ur Us Ut Uu Uv Uw Ux Uy Uz Va Vb Vc Vd Ve Vf Vg Vh Vi Vj Vk Vl Vm Vn Vo Vp Vq Vr Vs Vt Vu Vv Vw Vx Vy Vz Wa Wb Wc Wd We Wf Wg Wh : Value}
theorem p33 {R : Ending → World → Prop} {tl : List Value} {w : World} {k : Nat} {r : Bool} {g1 g2 g3 g4 g5 : Nat} {a0 a1 b0 b1 d0 d1 m0 m1 n0 n1 rk : Int} {A2 : Option Addr} {l2 : List S40} {k2 : Nat} {s1 s4 s7 s8 : ByteArray}  (hF : Fx w g1 g2 g3 g4 g5 a0 a1 b0 b1 d0 d1 m0 m1 n0 n1 A2 l2) (hk2 : l2.length ≤ k2) (h : wF2 k b0 b1 d0 d1 m0 m1 n0 n1 rk s4 s7 s8 = some r) (hR : ∀ x : World, Below w.heap.size w x → R (.returned (.bool r)) x) :
  (cc33 Try.f4).wp Try.prog (bodyPost Try.prog Try.f4 R) ⟨(.agg #[.int .i64 a0, .int .i64 a1]::.string s1::.slice A2 l2.length k2::.agg #[.int .i64 b0, .int .i64 b1]::.string s4::.agg #[.int .i64 d0, .int .i64 d1]::.agg #[.int .i64 m0, .int .i64 m1]::.string s7::.string s8::.agg #[.int .i64 n0, .int .i64 n1]::.int .i64 rk::.pointer (some ⟨g1, 0, none⟩)::Am::An::.pointer (some ⟨g2, 0, none⟩)::Ap::.pointer (some ⟨g3, 0, none⟩)::.pointer (some ⟨g4, 0, none⟩)::As::Au::.pointer (some ⟨g5, 0, none⟩)::Aw::Ax::Ay::Az::Ba::Bb::Bc::Bd::Be::Bf::Bg::Bh::Bi::Bj::Bk::Bl::Bm::Bn::Bo::Bp::Bq::Br::Bs::Bt::Bu::Bv::Bw::Bz::Ca::Cb::Cc::Cd::Ce::Cf::Cg::Ch::Ci::Cj::Ck::Cl::Cm::Cn::Co::Cp::Cq::Cr::Cs::Ct::Cu::Cv::Cw::Cx::Cy::Cz::Da::Db::Dc::Dd::De::Df::Dg::Dh::Di::Dj::Dk::Dl::Dm::Dn::Dp::Dq::Dr::Ds::Dt::Du::Dv::Dw::Dx::Dy::Dz::Ea::Eb::Ec::Ed::Ee::Ef::Eg::Eh::Ei::Ej::Ek::El::Em::En::Eo::Ep::Er::Es::Et::Eu::Ew::Ex::Ey::Ez::Fa::Fb::Fc::Fd::Fe::Ff::Fg::Fh::Fi::Fj::Fk::Fl::Fm::Fn::Fo::Fp::Fq::Fr::Fs::Ft::Fu::Fv::Fw::Fy::Fz::Ga::Gb::Gc::Gd::Gf::Gg::Gh::Gi::Gj::Gk::Gl::Gm::Gn::Gp::Gq::Gr::Gs::Gu::Gv::Gw::Gx::Gy::Gz::Ha::Hb::Hc::Hd::He::Hf::Hg::Hh::Hi::Hj::Hk::Hl::Hm::Hn::Ho::Hp::Hq::Hr::Hs::Ht::Hu::Hv::Hw::Hx::Hy::Hz::Ia::Ib::Ic::Ie::Ig::Ih::Ii::Ij::Ik::Il::Im::Ip::Iq::Ir::Iu::Iv::Iw::Ix::Iy::Iz::Ja::Jb::Jc::Jd::Je::Jf::Jg::Jh::Ji::Jj::Jk::Jl::Jm::Jn::Jo::Jp::Jq::Jr::Js::Jt::Ju::Jv::Jw::Jx::Jy::Jz::Ka::Kb::Kc::Ke::Kf::Kg::Kh::Ki::Kj::Kk::Kl::Km::Kn::Ko::Kp::Kq::Kr::Ks::Kt::Ku::Kv::Kw::Kx::Ky::Kz::La::Lb::Lc::Ld::Lf::Lg::Lh::Li::Lj::Lk::Ll::Lm::Ln::Lo::Lp::Lq::Lr::Ls::Lu::Lv::Lw::Lx::Ly::Lz::Ma::Mb::Mc::Md::Me::Mf::Mg::Mh::Mi::Mj::Mk::Ml::Mm::Mn::Mo::Mp::Mq::Mr::Ms::Mt::Mu::Mv::Mw::Mx::My::Mz::Na::Nb::Nc::Nd::Nf::Ng::Nh::Ni::Nj::Nk::Nl::Nm::Nn::Np::Nq::Nr::Ns::Nt::Nu::Nv::Nw::Nx::Ny::Nz::Oa::Ob::Od::Oe::Og::Oh::Oi::Oj::Ok::Ol::Om::Oo::Oq::Os::Ot::Ou::Ov::Ow::Ox::Oy::Oz::Pa::Pb::Pc::Pd::Pe::Pf::Pg::Ph::Pi::Pj::Pk::Pl::Pm::Pn::Po::Pp::Pq::Pr::Ps::Pt::Pu::Pv::Pw::Px::Py::Pz::Qa::Qb::Qc::Qd::Qe::Qf::Qg::Qh::Qi::Qj::Qk::Ql::Qm::Qn::Qo::Qp::Qq::Qr::Qs::Qt::Qu::Qv::Qw::Qx::Qy::Qz::Ra::Rb::Rc::Rd::Re::Rf::Rg::Rh::Ri::Rj::Rk::Rl::Rm::Rn::Ro::Rp::Rq::Rr::Rs::Rt::Ru::Rv::Rw::Rx::Ry::Rz::Sa::Sb::Sc::Sd::Se::Sf::Sg::Sh::Si::Sj::Sk::Sl::Sm::Sn::So::Sp::Sq::Sr::Ss::St::Su::Sv::Sw::Sx::Sy::Sz::Ta::Tb::Tc::Td::Te::Tf::Tg::Th::Ti::Tj::Tk::Tl::Tm::Tn::To::Tp::Tq::Tr::Ts::Tt::Tu::Tv::Tw::Tx::Ty::Tz::Ua::Ub::Uc::Ud::Ue::Uf::Ug::Uh::Ui::Uj::Uk::Ul::Um::Un::Uo::Up::Uq::Ur::Us::Ut::Uu::Uv::Uw::Ux::Uy::Uz::Va::Vb::Vc::Vd::Ve::Vf::Vg::Vh::Vi::Vj::Vk::Vl::Vm::Vn::Vo::Vp::Vq::Vr::Vs::Vt::Vu::Vv::Vw::Vx::Vy::Vz::Wa::Wb::Wc::Wd::We::Wf::Wg::Wh::tl).toArray, []⟩ w := by
  unfold wF2 at h
  obtain ⟨⟨v47, v48⟩, h0, h⟩ := Option.bind_eq_some_iff.mp h
  obtain ⟨⟨v49, v50⟩, h1, h⟩ := Option.bind_eq_some_iff.mp h
  obtain ⟨⟨v51, v52⟩, h2, h⟩ := Option.bind_eq_some_iff.mp h
  obtain ⟨⟨v53, v54⟩, h3, h⟩ := Option.bind_eq_some_iff.mp h
  obtain ⟨⟨v55, v56⟩, h4, h⟩ := Option.bind_eq_some_iff.mp h
  obtain ⟨⟨v57, v58⟩, h5, h⟩ := Option.bind_eq_some_iff.mp h
  obtain ⟨⟨v59, v60⟩, h6, h⟩ := Option.bind_eq_some_iff.mp h
  obtain ⟨⟨v61, v62⟩, h7, h⟩ := Option.bind_eq_some_iff.mp h
  obtain ⟨⟨v63, v64⟩, h8, h⟩ := Option.bind_eq_some_iff.mp h
  obtain ⟨⟨v65, v66⟩, h9, h⟩ := Option.bind_eq_some_iff.mp h
  obtain ⟨⟨v67, v68⟩, h10, h⟩ := Option.bind_eq_some_iff.mp h
  obtain ⟨⟨v69, v70⟩, h11, h⟩ := Option.bind_eq_some_iff.mp h
  obtain ⟨⟨v71, v72⟩, h12, h⟩ := Option.bind_eq_some_iff.mp h
  obtain ⟨⟨v73, v74⟩, h13, h⟩ := Option.bind_eq_some_iff.mp h
  refine st33 (k := k) hF hk2 h0 h1 h2 h3 h4 h5 h6 h7 h8 h9 h10 h11 h12 h13 ?_
  unfold Shut
  intro lU lV lW lX lY lZ mA mB mC mD mE mF mG mH mI mJ mK mL mM mN mO mP mQ mR mS mT mU mV mW mX mY mZ nA nB nC nD nE nF nG nH nI nJ nK nL nM nN nO nP nQ nR nS nT nU nV nW nX nY nZ oA oB oC oD oE oF oG oH oI oJ oK oL oM oN oO oP oQ oR oS oT oU oV oW oX oY oZ x hB hFx
  refine (wp_seq (wp_seq (st47 _ rfl ?_)) : (Code.seq (Code.seq (r47 Try.f4) (dd47 Try.f4)) (cc49 Try.f4)).wp _ _ _ _)
  intro pA pB pC pD pE pF pG pH pI pJ pK pL pM pN pO pP pQ pR pS pT pU pV pW pX pY pZ qA qB qC qD qE qF qG qH qI qJ qK qL qM qN qO qP qQ qR qS qT qU qV qW qX qY qZ rA rB rC rD rE rF rG rH rI rJ rK rL rM rN rO rP rQ rR rS rT rU rV rW rX rY rZ sA
  refine cd47 (R := R) _ rfl rfl (fun a w h => h) (fun hc => ?_) (fun hc => ?_)
  · rw [if_pos (show wB2 v47 v48 v49 v50 v51 v52 v53 v54 v55 v56 v57 v58 v59 v60 v61 v62 v63 v64 v65 v66 v67 v68 v69 v70 v71 v72 v73 v74 = true from hc)] at h; rw [Option.some.inj h]; exact hR _ hB
  · rw [if_neg (show ¬ (wB2 v47 v48 v49 v50 v51 v52 v53 v54 v55 v56 v57 v58 v59 v60 v61 v62 v63 v64 v65 v66 v67 v68 v69 v70 v71 v72 v73 v74 = true) from by unfold wB2; rw [hc]; decide)] at h; exact p49 hFx hk2 h (fun y hy => hR _ (below_step hB hy))
end
section
attribute [local go_sem] max2_int min2_int max_two min_two max_three min_three max_four min_four
set_option linter.unusedVariables false
set_option maxRecDepth 100000
set_option maxHeartbeats 8000000
set_option linter.unusedSimpArgs false
variable {Am An Ap As Au Aw Ax Ba Bb Bd Be Bf Bg Bh Bi Bj Bk Bl Bm Bn Bo Bp Bq Br Bs Bt Bu Bv Bw Bz Ca Cb Cc Cd Ce Cf Cg Ch Ci Cj Ck Cl Cm Cn Co Cp Cq Cr Cs Ct Cu Cv Cw Cx Cy Cz Da Db Dc Dd De Df Dg Dh Di Dj Dk Dl Dm Dn Dp Dq Dr Ds Dt Du Dv Dw Dx Dy Dz Ea Eb Ec Ed Ee Ef Eg Eh Ei Ej Ek El Em En Eo Ep Er Es Et Eu Ew Ex Ey Ez Fa Fb Fc Fd Fe Ff Fg Fh Fi Fj Fk Fl Fm Fn Fo Fp Fq Fr Fs Ft Fu Fv Fw Fy Fz Ga Gb Gc Gd Gf Gg Gh Gi Gj Gk Gl Gm Gn Gp Gq Gr Gs Gu Gv Gw Gx Gy Gz Ha Hb Hc Hd He Hf Hg Hh Hi Hj Hk Hl Hm Hn Ho Hp Hq Hr Hs Ht Hu Hv Hw Hx Hy Hz Ia Ib Ic Ie Ig Ih Ii Ij Ik Il Im Ip Iq Ir Iu Iv Iw Ix Iy Iz Ja Jb Jc Jd Je Jf Jg Jh Ji Jj Jk Jl Jm Jn Jo Jp Jq Jr Js Jt Ju Jv Jw Jx Jy Jz Ka Kb Kc Ke Kf Kg Kh Ki Kj Kk Kl Km Kn Ko Kp Kq Kr Ks Kt Ku Kv Kw Kx Ky Kz La Lb Lc Ld Lf Lg Lh Li Lj Lk Ll Lm Ln Lo Lp Lq Lr Ls Lu Lv Lw Lx Ly Lz Ma Mb Mc Md Me Mf Mg Mh Mi Mj Mk Ml Mm Mn Mo Mp Mq Mr Ms Mt Mu Mv Mw Mx My Mz Na Nb Nc Nd Nf Ng Nh Ni Nj Nk Nl Nm Nn Np Nq Nr Ns Nt Nu Nv Nw Nx Ny Nz Oa Ob Od Oe Og Oh Oi Oj Ok Ol Om Oo Oq Os Ot Ou Ov Ow Ox Oy Oz Pa Pb Pc Pd Pe Pf Pg Ph Pi Pj Pk Pl Pm Pn Po Pp Pq Pr Ps Pt Pu Pv Pw Px Py Pz Qa Qb Qc Qd Qe Qf Qg Qh Qi Qj Qk Ql Qm Qn Qo Qp Qq Qr Qs Qt Qu Qv Qw Qx Qy Qz Ra Rb Rc Rd Re Rf Rg Rh Ri Rj Rk Rl Rm Rn Ro Rp Rq Rr Rs Rt Ru Rv Rw Rx Ry Rz Sa Sb Sc Sd Se Sf Sg Sh Si Sj Sk Sl Sm Sn So Sp Sq Sr Ss St Su Sv Sw Sx Sy Sz Ta Tb Tc Td Te Tf Tg Th Ti Tj Tk Tl Tm Tn To Tp Tq Tr Ts Tt Tu Tv Tw Tx Ty Tz Ua Ub Uc Ud Ue Uf Ug Uh Ui Uj Uk Ul Um Un Uo Up Uq Ur Us Ut Uu Uv Uw Ux Uy Uz Va Vb Vc Vd Ve Vf Vg Vh Vi Vj Vk Vl Vm Vn Vo Vp Vq Vr Vs Vt Vu Vv Vw Vx Vy Vz Wa Wb Wc Wd We Wf Wg Wh : Value}
theorem p11 {R : Ending → World → Prop} {tl : List Value} {w : World} {k : Nat} {r : Bool} {g1 g2 g3 g4 g5 : Nat} {a0 a1 b0 b1 d0 d1 m0 m1 n0 n1 rk : Int} {A2 : Option Addr} {l2 : List S40} {k2 : Nat} {s1 s4 s7 s8 : ByteArray} {v23 : ByteArray} {v24 : Bool} {B27 : Option Addr} {v27 : List S40} {q27 : Nat} (hF : Fx w g1 g2 g3 g4 g5 a0 a1 b0 b1 d0 d1 m0 m1 n0 n1 A2 l2) (hk2 : l2.length ≤ k2) (hC27 : Kd.C k40 w B27 v27.length v27) (hq27 : v27.length ≤ q27) (h : wF1 k a0 a1 b0 b1 d0 d1 m0 m1 n0 n1 rk s1 l2 s4 s7 s8 v23 v24 v27 = some r) (hR : ∀ x : World, Below w.heap.size w x → R (.returned (.bool r)) x) :
  (cc11 Try.f4).wp Try.prog (bodyPost Try.prog Try.f4 R) ⟨(.agg #[.int .i64 a0, .int .i64 a1]::.string s1::.slice A2 l2.length k2::.agg #[.int .i64 b0, .int .i64 b1]::.string s4::.agg #[.int .i64 d0, .int .i64 d1]::.agg #[.int .i64 m0, .int .i64 m1]::.string s7::.string s8::.agg #[.int .i64 n0, .int .i64 n1]::.int .i64 rk::.pointer (some ⟨g1, 0, none⟩)::Am::An::.pointer (some ⟨g2, 0, none⟩)::Ap::.pointer (some ⟨g3, 0, none⟩)::.pointer (some ⟨g4, 0, none⟩)::As::Au::.pointer (some ⟨g5, 0, none⟩)::Aw::Ax::.string v23::.bool v24::Ba::Bb::.slice B27 v27.length q27::Bd::Be::Bf::Bg::Bh::Bi::Bj::Bk::Bl::Bm::Bn::Bo::Bp::Bq::Br::Bs::Bt::Bu::Bv::Bw::Bz::Ca::Cb::Cc::Cd::Ce::Cf::Cg::Ch::Ci::Cj::Ck::Cl::Cm::Cn::Co::Cp::Cq::Cr::Cs::Ct::Cu::Cv::Cw::Cx::Cy::Cz::Da::Db::Dc::Dd::De::Df::Dg::Dh::Di::Dj::Dk::Dl::Dm::Dn::Dp::Dq::Dr::Ds::Dt::Du::Dv::Dw::Dx::Dy::Dz::Ea::Eb::Ec::Ed::Ee::Ef::Eg::Eh::Ei::Ej::Ek::El::Em::En::Eo::Ep::Er::Es::Et::Eu::Ew::Ex::Ey::Ez::Fa::Fb::Fc::Fd::Fe::Ff::Fg::Fh::Fi::Fj::Fk::Fl::Fm::Fn::Fo::Fp::Fq::Fr::Fs::Ft::Fu::Fv::Fw::Fy::Fz::Ga::Gb::Gc::Gd::Gf::Gg::Gh::Gi::Gj::Gk::Gl::Gm::Gn::Gp::Gq::Gr::Gs::Gu::Gv::Gw::Gx::Gy::Gz::Ha::Hb::Hc::Hd::He::Hf::Hg::Hh::Hi::Hj::Hk::Hl::Hm::Hn::Ho::Hp::Hq::Hr::Hs::Ht::Hu::Hv::Hw::Hx::Hy::Hz::Ia::Ib::Ic::Ie::Ig::Ih::Ii::Ij::Ik::Il::Im::Ip::Iq::Ir::Iu::Iv::Iw::Ix::Iy::Iz::Ja::Jb::Jc::Jd::Je::Jf::Jg::Jh::Ji::Jj::Jk::Jl::Jm::Jn::Jo::Jp::Jq::Jr::Js::Jt::Ju::Jv::Jw::Jx::Jy::Jz::Ka::Kb::Kc::Ke::Kf::Kg::Kh::Ki::Kj::Kk::Kl::Km::Kn::Ko::Kp::Kq::Kr::Ks::Kt::Ku::Kv::Kw::Kx::Ky::Kz::La::Lb::Lc::Ld::Lf::Lg::Lh::Li::Lj::Lk::Ll::Lm::Ln::Lo::Lp::Lq::Lr::Ls::Lu::Lv::Lw::Lx::Ly::Lz::Ma::Mb::Mc::Md::Me::Mf::Mg::Mh::Mi::Mj::Mk::Ml::Mm::Mn::Mo::Mp::Mq::Mr::Ms::Mt::Mu::Mv::Mw::Mx::My::Mz::Na::Nb::Nc::Nd::Nf::Ng::Nh::Ni::Nj::Nk::Nl::Nm::Nn::Np::Nq::Nr::Ns::Nt::Nu::Nv::Nw::Nx::Ny::Nz::Oa::Ob::Od::Oe::Og::Oh::Oi::Oj::Ok::Ol::Om::Oo::Oq::Os::Ot::Ou::Ov::Ow::Ox::Oy::Oz::Pa::Pb::Pc::Pd::Pe::Pf::Pg::Ph::Pi::Pj::Pk::Pl::Pm::Pn::Po::Pp::Pq::Pr::Ps::Pt::Pu::Pv::Pw::Px::Py::Pz::Qa::Qb::Qc::Qd::Qe::Qf::Qg::Qh::Qi::Qj::Qk::Ql::Qm::Qn::Qo::Qp::Qq::Qr::Qs::Qt::Qu::Qv::Qw::Qx::Qy::Qz::Ra::Rb::Rc::Rd::Re::Rf::Rg::Rh::Ri::Rj::Rk::Rl::Rm::Rn::Ro::Rp::Rq::Rr::Rs::Rt::Ru::Rv::Rw::Rx::Ry::Rz::Sa::Sb::Sc::Sd::Se::Sf::Sg::Sh::Si::Sj::Sk::Sl::Sm::Sn::So::Sp::Sq::Sr::Ss::St::Su::Sv::Sw::Sx::Sy::Sz::Ta::Tb::Tc::Td::Te::Tf::Tg::Th::Ti::Tj::Tk::Tl::Tm::Tn::To::Tp::Tq::Tr::Ts::Tt::Tu::Tv::Tw::Tx::Ty::Tz::Ua::Ub::Uc::Ud::Ue::Uf::Ug::Uh::Ui::Uj::Uk::Ul::Um::Un::Uo::Up::Uq::Ur::Us::Ut::Uu::Uv::Uw::Ux::Uy::Uz::Va::Vb::Vc::Vd::Ve::Vf::Vg::Vh::Vi::Vj::Vk::Vl::Vm::Vn::Vo::Vp::Vq::Vr::Vs::Vt::Vu::Vv::Vw::Vx::Vy::Vz::Wa::Wb::Wc::Wd::We::Wf::Wg::Wh::tl).toArray, []⟩ w := by
  refine (wp_seq (sq11 v24 ?_) : (Code.seq (ll (cc11 Try.f4)) (cc33 Try.f4)).wp _ _ _ _)
  by_cases hb : v24 = true
  · rw [if_pos hb]
    unfold wF1 at h
    rw [if_pos hb] at h
    obtain ⟨⟨v35, v36⟩, h1, h⟩ := Option.bind_eq_some_iff.mp h
    obtain ⟨⟨v37, v38⟩, h2, h⟩ := Option.bind_eq_some_iff.mp h
    refine st12 (k := k) hF hk2 hC27 hq27 h1 h2 ?_
    unfold Shut
    intro iG iH iI iJ iK iL iM iN iO iP iQ iR iS iT x hB hFx
    refine (wp_seq (wp_seq (st14 _ rfl ?_)) : (Code.seq (Code.seq (r14 Try.f4) (dd14 Try.f4)) (b16 Try.f4)).wp _ _ _ _)
    intro iU iV iW iX iY iZ jA jB jC jD jE jF jG jH jI jJ
    refine cd14 (R := R) _ rfl rfl (fun a w h => h) (fun hc => ?_) (fun hc => ?_)
    · rw [if_pos hc] at h; rw [Option.some.inj h]; exact hR _ hB
    · rw [if_neg (by rw [hc]; decide)] at h
      obtain ⟨q, h3, h⟩ := Option.bind_eq_some_iff.mp h
      refine (wp_seq (st16 ?_) : (Code.seq (ll (b16 Try.f4)) (Code.seq (Code.seq (ll (ll (b17 Try.f4))) (Code.block 0 (Code.loop (lp Try.f4)))) (b31 Try.f4))).wp _ _ _ _)
      refine wp_seq (wp_seq (st17 ?_))
      refine wp_block (wp_loop_rounds (l2.length + 1) (lpt (R := R) (Q := Exit.then ((cc33 Try.f4).wp Try.prog (bodyPost Try.prog Try.f4 R)) (bodyPost Try.prog Try.f4 R)) hFx hk2 (fun a w h => h) (fun c a N v w h => by cases N <;> exact h) ?_ ?_ l2 0 s1 _ _ _ _ _ _ _ _ _ _ _ _ _ _ _ _ _ _ _ _ _ _ _ _ _ _ _ _ _ _ _ _ _ _ _ _ _ _ _ _ _ _ _ _ _ _ _ _ _ _ _ _ _ _ _ _ _ _ _  x rfl h3 (Below.refl _ _)))
      · intro nw hq bP bQ bR bS bT bU jP jQ jR jS jT jU jV jW jX jY jZ kA kB kC kD kE kF kG kH kI kJ kK kL kM kO kP kQ kR kS kT kU kV kW kX kY kZ lA lB lC lD lE lF lG lH lI lJ lK lL lM lN lO lP lQ jO y hy
        subst hq
        have hFy := hFx.below hy
        have hBy := below_step hB hy
        refine (wp_seq (st31 ?_) : (Code.seq (ll (b31 Try.f4)) (rr (b31 Try.f4))).wp _ _ _ _)
        refine cd31 (R := R) _ rfl rfl (fun a w h => h) (fun hd => ?_) (fun hd => ?_)
        · rw [Option.elim_some, if_pos hd] at h; rw [Option.some.inj h]; exact hR _ hBy
        · rw [Option.elim_some, if_neg (by rw [hd]; decide)] at h; exact p33 hFy hk2 h (fun z hz => hR _ (below_step hBy hz))
      · intro hq y hy
        subst hq
        rw [Option.elim_none] at h; rw [Option.some.inj h]; exact hR _ (below_step hB hy)
  · rw [if_neg hb]
    unfold wF1 at h
    rw [if_neg hb] at h
    exact p33 hF hk2 h hR
end
section
attribute [local go_sem] max2_int min2_int max_two min_two max_three min_three max_four min_four
set_option linter.unusedVariables false
set_option maxRecDepth 100000
set_option maxHeartbeats 8000000
set_option linter.unusedSimpArgs false
variable {Am An Ap As Au Aw Ax Ay Az Ba Bb Bc Bd Be Bf Bg Bh Bi Bj Bk Bl Bm Bn Bo Bp Bq Br Bs Bt Bu Bv Bw Bz Ca Cb Cc Cd Ce Cf Cg Ch Ci Cj Ck Cl Cm Cn Co Cp Cq Cr Cs Ct Cu Cv Cw Cx Cy Cz Da Db Dc Dd De Df Dg Dh Di Dj Dk Dl Dm Dn Dp Dq Dr Ds Dt Du Dv Dw Dx Dy Dz Ea Eb Ec Ed Ee Ef Eg Eh Ei Ej Ek El Em En Eo Ep Er Es Et Eu Ew Ex Ey Ez Fa Fb Fc Fd Fe Ff Fg Fh Fi Fj Fk Fl Fm Fn Fo Fp Fq Fr Fs Ft Fu Fv Fw Fy Fz Ga Gb Gc Gd Gf Gg Gh Gi Gj Gk Gl Gm Gn Gp Gq Gr Gs Gu Gv Gw Gx Gy Gz Ha Hb Hc Hd He Hf Hg Hh Hi Hj Hk Hl Hm Hn Ho Hp Hq Hr Hs Ht Hu Hv Hw Hx Hy Hz Ia Ib Ic Ie Ig Ih Ii Ij Ik Il Im Ip Iq Ir Iu Iv Iw Ix Iy Iz Ja Jb Jc Jd Je Jf Jg Jh Ji Jj Jk Jl Jm Jn Jo Jp Jq Jr Js Jt Ju Jv Jw Jx Jy Jz Ka Kb Kc Ke Kf Kg Kh Ki Kj Kk Kl Km Kn Ko Kp Kq Kr Ks Kt Ku Kv Kw Kx Ky Kz La Lb Lc Ld Lf Lg Lh Li Lj Lk Ll Lm Ln Lo Lp Lq Lr Ls Lu Lv Lw Lx Ly Lz Ma Mb Mc Md Me Mf Mg Mh Mi Mj Mk Ml Mm Mn Mo Mp Mq Mr Ms Mt Mu Mv Mw Mx My Mz Na Nb Nc Nd Nf Ng Nh Ni Nj Nk Nl Nm Nn Np Nq Nr Ns Nt Nu Nv Nw Nx Ny Nz Oa Ob Od Oe Og Oh Oi Oj Ok Ol Om Oo Oq Os Ot Ou Ov Ow Ox Oy Oz Pa Pb Pc Pd Pe Pf Pg Ph Pi Pj Pk Pl Pm Pn Po Pp Pq Pr Ps Pt Pu Pv Pw Px Py Pz Qa Qb Qc Qd Qe Qf Qg Qh Qi Qj Qk Ql Qm Qn Qo Qp Qq Qr Qs Qt Qu Qv Qw Qx Qy Qz Ra Rb Rc Rd Re Rf Rg Rh Ri Rj Rk Rl Rm Rn Ro Rp Rq Rr Rs Rt Ru Rv Rw Rx Ry Rz Sa Sb Sc Sd Se Sf Sg Sh Si Sj Sk Sl Sm Sn So Sp Sq Sr Ss St Su Sv Sw Sx Sy Sz Ta Tb Tc Td Te Tf Tg Th Ti Tj Tk Tl Tm Tn To Tp Tq Tr Ts Tt Tu Tv Tw Tx Ty Tz Ua Ub Uc Ud Ue Uf Ug Uh Ui Uj Uk Ul Um Un Uo Up Uq Ur Us Ut Uu Uv Uw Ux Uy Uz Va Vb Vc Vd Ve Vf Vg Vh Vi Vj Vk Vl Vm Vn Vo Vp Vq Vr Vs Vt Vu Vv Vw Vx Vy Vz Wa Wb Wc Wd We Wf Wg Wh : Value}
theorem p1 {R : Ending → World → Prop} {tl : List Value} {w : World} {k : Nat} {r : Bool} {g1 g2 g3 g4 g5 : Nat} {a0 a1 b0 b1 d0 d1 m0 m1 n0 n1 rk : Int} {A2 : Option Addr} {l2 : List S40} {k2 : Nat} {s1 s4 s7 s8 : ByteArray} (hF : Fx w g1 g2 g3 g4 g5 a0 a1 b0 b1 d0 d1 m0 m1 n0 n1 A2 l2) (hk2 : l2.length ≤ k2) (h : laws_FnWheelsTurnOfAll.f k a0 a1 s1 l2 b0 b1 s4 d0 d1 m0 m1 s7 s8 n0 n1 rk = some r) (hR : ∀ x : World, Below w.heap.size w x → R (.returned (.bool r)) x) :
  (cc1 Try.f4).wp Try.prog (bodyPost Try.prog Try.f4 R) ⟨(.agg #[.int .i64 a0, .int .i64 a1]::.string s1::.slice A2 l2.length k2::.agg #[.int .i64 b0, .int .i64 b1]::.string s4::.agg #[.int .i64 d0, .int .i64 d1]::.agg #[.int .i64 m0, .int .i64 m1]::.string s7::.string s8::.agg #[.int .i64 n0, .int .i64 n1]::.int .i64 rk::.pointer (some ⟨g1, 0, none⟩)::Am::An::.pointer (some ⟨g2, 0, none⟩)::Ap::.pointer (some ⟨g3, 0, none⟩)::.pointer (some ⟨g4, 0, none⟩)::As::Au::.pointer (some ⟨g5, 0, none⟩)::Aw::Ax::Ay::Az::Ba::Bb::Bc::Bd::Be::Bf::Bg::Bh::Bi::Bj::Bk::Bl::Bm::Bn::Bo::Bp::Bq::Br::Bs::Bt::Bu::Bv::Bw::Bz::Ca::Cb::Cc::Cd::Ce::Cf::Cg::Ch::Ci::Cj::Ck::Cl::Cm::Cn::Co::Cp::Cq::Cr::Cs::Ct::Cu::Cv::Cw::Cx::Cy::Cz::Da::Db::Dc::Dd::De::Df::Dg::Dh::Di::Dj::Dk::Dl::Dm::Dn::Dp::Dq::Dr::Ds::Dt::Du::Dv::Dw::Dx::Dy::Dz::Ea::Eb::Ec::Ed::Ee::Ef::Eg::Eh::Ei::Ej::Ek::El::Em::En::Eo::Ep::Er::Es::Et::Eu::Ew::Ex::Ey::Ez::Fa::Fb::Fc::Fd::Fe::Ff::Fg::Fh::Fi::Fj::Fk::Fl::Fm::Fn::Fo::Fp::Fq::Fr::Fs::Ft::Fu::Fv::Fw::Fy::Fz::Ga::Gb::Gc::Gd::Gf::Gg::Gh::Gi::Gj::Gk::Gl::Gm::Gn::Gp::Gq::Gr::Gs::Gu::Gv::Gw::Gx::Gy::Gz::Ha::Hb::Hc::Hd::He::Hf::Hg::Hh::Hi::Hj::Hk::Hl::Hm::Hn::Ho::Hp::Hq::Hr::Hs::Ht::Hu::Hv::Hw::Hx::Hy::Hz::Ia::Ib::Ic::Ie::Ig::Ih::Ii::Ij::Ik::Il::Im::Ip::Iq::Ir::Iu::Iv::Iw::Ix::Iy::Iz::Ja::Jb::Jc::Jd::Je::Jf::Jg::Jh::Ji::Jj::Jk::Jl::Jm::Jn::Jo::Jp::Jq::Jr::Js::Jt::Ju::Jv::Jw::Jx::Jy::Jz::Ka::Kb::Kc::Ke::Kf::Kg::Kh::Ki::Kj::Kk::Kl::Km::Kn::Ko::Kp::Kq::Kr::Ks::Kt::Ku::Kv::Kw::Kx::Ky::Kz::La::Lb::Lc::Ld::Lf::Lg::Lh::Li::Lj::Lk::Ll::Lm::Ln::Lo::Lp::Lq::Lr::Ls::Lu::Lv::Lw::Lx::Ly::Lz::Ma::Mb::Mc::Md::Me::Mf::Mg::Mh::Mi::Mj::Mk::Ml::Mm::Mn::Mo::Mp::Mq::Mr::Ms::Mt::Mu::Mv::Mw::Mx::My::Mz::Na::Nb::Nc::Nd::Nf::Ng::Nh::Ni::Nj::Nk::Nl::Nm::Nn::Np::Nq::Nr::Ns::Nt::Nu::Nv::Nw::Nx::Ny::Nz::Oa::Ob::Od::Oe::Og::Oh::Oi::Oj::Ok::Ol::Om::Oo::Oq::Os::Ot::Ou::Ov::Ow::Ox::Oy::Oz::Pa::Pb::Pc::Pd::Pe::Pf::Pg::Ph::Pi::Pj::Pk::Pl::Pm::Pn::Po::Pp::Pq::Pr::Ps::Pt::Pu::Pv::Pw::Px::Py::Pz::Qa::Qb::Qc::Qd::Qe::Qf::Qg::Qh::Qi::Qj::Qk::Ql::Qm::Qn::Qo::Qp::Qq::Qr::Qs::Qt::Qu::Qv::Qw::Qx::Qy::Qz::Ra::Rb::Rc::Rd::Re::Rf::Rg::Rh::Ri::Rj::Rk::Rl::Rm::Rn::Ro::Rp::Rq::Rr::Rs::Rt::Ru::Rv::Rw::Rx::Ry::Rz::Sa::Sb::Sc::Sd::Se::Sf::Sg::Sh::Si::Sj::Sk::Sl::Sm::Sn::So::Sp::Sq::Sr::Ss::St::Su::Sv::Sw::Sx::Sy::Sz::Ta::Tb::Tc::Td::Te::Tf::Tg::Th::Ti::Tj::Tk::Tl::Tm::Tn::To::Tp::Tq::Tr::Ts::Tt::Tu::Tv::Tw::Tx::Ty::Tz::Ua::Ub::Uc::Ud::Ue::Uf::Ug::Uh::Ui::Uj::Uk::Ul::Um::Un::Uo::Up::Uq::Ur::Us::Ut::Uu::Uv::Uw::Ux::Uy::Uz::Va::Vb::Vc::Vd::Ve::Vf::Vg::Vh::Vi::Vj::Vk::Vl::Vm::Vn::Vo::Vp::Vq::Vr::Vs::Vt::Vu::Vv::Vw::Vx::Vy::Vz::Wa::Wb::Wc::Wd::We::Wf::Wg::Wh::tl).toArray, []⟩ w := by
  refine (wp_seq (wp_seq (st1 _ rfl ?_)) : (Code.seq (Code.seq (r1 Try.f4) (dd1 Try.f4)) (cc3 Try.f4)).wp _ _ _ _)
  intro dJ dK dL dM dN dO dP dQ dR dS dT dU dV dW dX dY dZ eA eB eC eD eE
  unfold laws_FnWheelsTurnOfAll.f at h
  refine cd1 (R := R) _ rfl rfl (fun a w h => h) (fun hc => ?_) (fun hc => ?_)
  · rw [if_pos (show wB0 s1 l2 s4 s7 s8 = true from hc)] at h; rw [Option.some.inj h]; exact hR _ (Below.refl _ _)
  rw [if_neg (show ¬ (wB0 s1 l2 s4 s7 s8 = true) from by unfold wB0; rw [hc]; decide)] at h
  obtain ⟨⟨v23, v24⟩, h0, h⟩ := Option.bind_eq_some_iff.mp h
  obtain ⟨⟨v25, v26⟩, h1, h⟩ := Option.bind_eq_some_iff.mp h
  obtain ⟨⟨v27, v28⟩, h2, h⟩ := Option.bind_eq_some_iff.mp h
  obtain ⟨⟨v29, v30⟩, h3, h⟩ := Option.bind_eq_some_iff.mp h
  obtain ⟨⟨v31, v32⟩, h4, h⟩ := Option.bind_eq_some_iff.mp h
  obtain ⟨⟨v33, v34⟩, h5, h⟩ := Option.bind_eq_some_iff.mp h
  refine st3 (k := k) hF hk2 h0 h1 h2 h3 h4 h5 ?_
  unfold Shut
  intro eG eH eI eJ eK eL eM eN eO eP eQ eR eS eT eU eV eW eX eY eZ fA fB fC fD fE fF fG fH fI fJ fK fL fM fN fO fP fQ fR B27 q27 B29 q29 x hB hFx hC27 hq27 hC29 hq29
  have hJ : J9 (Below x.heap.size x) g1 a0 a1 B27 B29 q27 q29 v27 v29 :=
    ⟨fun y z hy hz => below_step hy hz, fun y n hy => pw_below_drewN hy n, fun y hy => below_drew1 hy, fun y hy => ⟨(hFx.h1.below hy).c0, (hFx.h1.below hy).c1⟩, fun y hy => Kd.C_below hC27 hy, fun y hy => Kd.C_below hC29 hy, hq27, hq29⟩
  refine (wp_seq (wp_seq (st9 (kj := k) (F := fun b => if b = true then some false else wF1 k a0 a1 b0 b1 d0 d1 m0 m1 n0 n1 rk s1 l2 s4 s7 s8 v23 v24 v27) ?_ hJ ?_ h x (Below.refl _ _))) : (Code.seq (Code.seq (r9 Try.f4) (dd9 Try.f4)) (cc11 Try.f4)).wp _ _ _ _)
  · exact fun c a N v w h => by cases N <;> exact h
  intro b fS fT fU fV fW fX fY fZ gA gB gC gD gE gF gG gH gI gJ gK gL gM gN gO gP gQ gR gS gT gU gV gW gX gY gZ hD hE hI hL hM hO hP hT hU hV hW hX hY hZ iA iB iC iD y hy hb
  refine cd9 (R := R) b rfl rfl (fun a w h => h) (fun hd => ?_) (fun hd => ?_)
  · subst hd; rw [Option.some.inj hb]; exact hR _ (below_step hB hy)
  · subst hd; exact p11 (hFx.below hy) hk2 (Kd.C_below hC27 hy) hq27 hb (fun z hz => hR _ (below_step (below_step hB hy) hz))
theorem laws_FnWheelsTurnOfAll.calls0 (k : Nat) (a0 a1 : Int) (s1 : ByteArray) (A2 : Option Addr) (k2 : Nat) (l2 : List S40) (b0 b1 : Int) (s4 : ByteArray) (d0 d1 m0 m1 : Int) (s7 s8 : ByteArray) (n0 n1 rk : Int) (r : Bool) (w : World) (hr2 : Kd.C k40 w A2 l2.length l2) (hk2 : l2.length ≤ k2) (h : laws_FnWheelsTurnOfAll.f k a0 a1 s1 l2 b0 b1 s4 d0 d1 m0 m1 s7 s8 n0 n1 rk = some r) :
    Calls Try.prog 4 #[.agg #[.int .i64 a0, .int .i64 a1], .string s1, .slice A2 l2.length k2, .agg #[.int .i64 b0, .int .i64 b1], .string s4, .agg #[.int .i64 d0, .int .i64 d1], .agg #[.int .i64 m0, .int .i64 m1], .string s7, .string s8, .agg #[.int .i64 n0, .int .i64 n1], .int .i64 rk] w fun e w' => e = .returned (.bool r) ∧ Below w.heap.size w w' := by
  go_enter Try.func4, Try.ntmps4
  refine (wp_seq (st0 (tl := _) hr2 ?_) : (Code.seq (ll (fb Try.f4)) (cc1 Try.f4)).wp _ _ _ _)
  unfold Shut
  intro g1 g2 g3 g4 g5 x hB hF
  exact p1 (tl := []) hF hk2 h (fun y hy => ⟨rfl, below_step hB hy⟩)
end
theorem laws_FnWheelsTurnOfAll.calls (k : Nat) (a0_0 : Int) (a0_1 : Int) (a1 : ByteArray) (A2 : Option Addr) (c2 : Nat) (l2 : List (S40)) (a3_0 : Int) (a3_1 : Int) (a4 : ByteArray) (a5_0 : Int) (a5_1 : Int) (a6_0 : Int) (a6_1 : Int) (a7 : ByteArray) (a8 : ByteArray) (a9_0 : Int) (a9_1 : Int) (a10 : Int) (r : Bool) (w : World) (hr2 : Kd.C k40 w A2 l2.length l2) (hc2 : l2.length ≤ c2) (h : laws_FnWheelsTurnOfAll.f k a0_0 a0_1 a1 l2 a3_0 a3_1 a4 a5_0 a5_1 a6_0 a6_1 a7 a8 a9_0 a9_1 a10 = some r) :
    Calls Try.prog 4 #[.agg #[.int .i64 a0_0, .int .i64 a0_1], .string a1, .slice A2 l2.length c2, .agg #[.int .i64 a3_0, .int .i64 a3_1], .string a4, .agg #[.int .i64 a5_0, .int .i64 a5_1], .agg #[.int .i64 a6_0, .int .i64 a6_1], .string a7, .string a8, .agg #[.int .i64 a9_0, .int .i64 a9_1], .int .i64 a10] w fun e w' => e = .returned (.bool r) ∧ Below w.heap.size w w' := by
  exact laws_FnWheelsTurnOfAll.calls0 k a0_0 a0_1 a1 A2 c2 l2 a3_0 a3_1 a4 a5_0 a5_1 a6_0 a6_1 a7 a8 a9_0 a9_1 a10 r w hr2 hc2 h
end Go.Proofs.Ytoaekmghlmeflaa.O
