/- What some functions' texts ask for, step by step, each checked by the kernel. No conditions. -/
import Derived.Test.YtmjiaahpjjnloaaGreatProg
import Derived.Test.YtmjiaahpjjnloaaGreatCmE
set_option linter.unusedVariables false
set_option linter.unusedSimpArgs false

/- What some functions' texts ask for, step by step, each checked by the kernel. No conditions. -/
set_option linter.unusedVariables false
set_option maxRecDepth 100000
namespace Go.Proofs.YtmjiaahpjjnloaaGreat
open Go Go.CM
theorem l13begin_W (con : CallT) (xa xb : Nat) (z : Int) (xd : Nat) (k : Int) (h : Nat) (v : Value) (H : CH) (K : KP) : funW Tryz.prog con 74 [.agg ⟨[u64 xa, u64 xb, i64 z, u64 xd]⟩, .agg ⟨[i64 k, u64 h]⟩, v] H K =
 (Nw H (mkRow 29 0 [(u64 (xa)), (u64 (xb)), (i64 z), (u64 (xd))]) fun p1 H2 =>
 Nw H2 (mkRow 45 0 [(i64 k), (u64 (h))]) fun p3 H4 =>
 Ld H4 p3 1 fun v5 =>
 Ld H4 p3 0 fun v6 =>
 AsInt .i64 v6 fun z7 =>
 Cd (ltZ z7 (Int.ofNat 0)) (
 Ld H4 p3 1 fun v8 =>
 AsLen v fun l9 =>
 Must (cvOk .i64 (Int.ofNat l9)) (
 AsNat .u64 v8 fun n10 =>
 Cd (ltN n10 (wrapN .u64 (Int.ofNat l9))) (
 Ld H4 p3 1 fun v11 =>
 AsSlc v fun p12 o13 l14 c15 =>
 AsCnt v11 fun n16 =>
 Must (ltN n16 l14) (
 Ld H4 p12 (Nat.add (Nat.add o13 (Nat.mul n16 6)) 0) fun v17 =>
 Ld H4 p3 0 fun v18 =>
 Ld H4 p1 0 fun v19 =>
 Ld H4 p1 1 fun v20 =>
 Ld H4 p1 2 fun v21 =>
 Ld H4 p1 3 fun v22 =>
 Call1 Tryz.prog con 72 [(.agg ⟨[v19, v20, v21, v22]⟩)] H4 fun v23 H24 =>
 Ld H24 p1 0 fun v25 =>
 Ld H24 p1 1 fun v26 =>
 Ld H24 p1 2 fun v27 =>
 Ld H24 p1 3 fun v28 =>
 Call1 Tryz.prog con 119 [(.agg ⟨[v25, v26, v27, v28]⟩), v17] H24 fun v29 H30 =>
 Ld H30 p1 0 fun v31 =>
 Ld H30 p1 1 fun v32 =>
 Ld H30 p1 2 fun v33 =>
 Ld H30 p1 3 fun v34 =>
 Call1 Tryz.prog con 130 [(.agg ⟨[v31, v32, v33, v34]⟩)] H30 fun v35 H36 =>
 Sc v18 (Sc v23 (Sc v29 (Sc v35 (Nw H36 (mkRow 326 0 [v18, v23, v29, v35]) fun p37 H38 =>
 Ld H4 p1 0 fun v39 =>
 Ld H4 p1 1 fun v40 =>
 Ld H4 p1 2 fun v41 =>
 Ld H4 p1 3 fun v42 =>
 Same (.agg ⟨[v31, v32, v33, v34]⟩) (.agg ⟨[v39, v40, v41, v42]⟩) (
 Ld H24 p1 0 fun v43 =>
 Ld H24 p1 1 fun v44 =>
 Ld H24 p1 2 fun v45 =>
 Ld H24 p1 3 fun v46 =>
 Same (.agg ⟨[v31, v32, v33, v34]⟩) (.agg ⟨[v43, v44, v45, v46]⟩) (
 Ld H30 p1 0 fun v47 =>
 Ld H30 p1 1 fun v48 =>
 Ld H30 p1 2 fun v49 =>
 Ld H30 p1 3 fun v50 =>
 Same (.agg ⟨[v31, v32, v33, v34]⟩) (.agg ⟨[v47, v48, v49, v50]⟩) (
 Ld H4 p1 0 fun v51 =>
 Ld H4 p1 1 fun v52 =>
 Ld H4 p1 2 fun v53 =>
 Ld H4 p1 3 fun v54 =>
 Same (.agg ⟨[v25, v26, v27, v28]⟩) (.agg ⟨[v51, v52, v53, v54]⟩) (
 Ld H24 p1 0 fun v55 =>
 Ld H24 p1 1 fun v56 =>
 Ld H24 p1 2 fun v57 =>
 Ld H24 p1 3 fun v58 =>
 Same (.agg ⟨[v25, v26, v27, v28]⟩) (.agg ⟨[v55, v56, v57, v58]⟩) (
 Ld H4 p3 0 fun v59 =>
 Same v18 v59 (
 Ld H24 p3 0 fun v60 =>
 Same v18 v60 (
 Ld H30 p3 0 fun v61 =>
 Same v18 v61 (
 Ld H36 p3 0 fun v62 =>
 Same v18 v62 (
 K (ptr p37 0) H38))))))))))))))) (
 Ld H4 p3 0 fun v63 =>
 Ld H4 p1 0 fun v64 =>
 Ld H4 p1 1 fun v65 =>
 Ld H4 p1 2 fun v66 =>
 Ld H4 p1 3 fun v67 =>
 Call1 Tryz.prog con 72 [(.agg ⟨[v64, v65, v66, v67]⟩)] H4 fun v68 H69 =>
 Ld H69 p1 0 fun v70 =>
 Ld H69 p1 1 fun v71 =>
 Ld H69 p1 2 fun v72 =>
 Ld H69 p1 3 fun v73 =>
 Call1 Tryz.prog con 119 [(.agg ⟨[v70, v71, v72, v73]⟩), (u64 (0))] H69 fun v74 H75 =>
 Ld H75 p1 0 fun v76 =>
 Ld H75 p1 1 fun v77 =>
 Ld H75 p1 2 fun v78 =>
 Ld H75 p1 3 fun v79 =>
 Call1 Tryz.prog con 130 [(.agg ⟨[v76, v77, v78, v79]⟩)] H75 fun v80 H81 =>
 Sc v63 (Sc v68 (Sc v74 (Sc v80 (Nw H81 (mkRow 326 0 [v63, v68, v74, v80]) fun p82 H83 =>
 Ld H4 p1 0 fun v84 =>
 Ld H4 p1 1 fun v85 =>
 Ld H4 p1 2 fun v86 =>
 Ld H4 p1 3 fun v87 =>
 Same (.agg ⟨[v76, v77, v78, v79]⟩) (.agg ⟨[v84, v85, v86, v87]⟩) (
 Ld H69 p1 0 fun v88 =>
 Ld H69 p1 1 fun v89 =>
 Ld H69 p1 2 fun v90 =>
 Ld H69 p1 3 fun v91 =>
 Same (.agg ⟨[v76, v77, v78, v79]⟩) (.agg ⟨[v88, v89, v90, v91]⟩) (
 Ld H75 p1 0 fun v92 =>
 Ld H75 p1 1 fun v93 =>
 Ld H75 p1 2 fun v94 =>
 Ld H75 p1 3 fun v95 =>
 Same (.agg ⟨[v76, v77, v78, v79]⟩) (.agg ⟨[v92, v93, v94, v95]⟩) (
 Ld H4 p1 0 fun v96 =>
 Ld H4 p1 1 fun v97 =>
 Ld H4 p1 2 fun v98 =>
 Ld H4 p1 3 fun v99 =>
 Same (.agg ⟨[v70, v71, v72, v73]⟩) (.agg ⟨[v96, v97, v98, v99]⟩) (
 Ld H69 p1 0 fun v100 =>
 Ld H69 p1 1 fun v101 =>
 Ld H69 p1 2 fun v102 =>
 Ld H69 p1 3 fun v103 =>
 Same (.agg ⟨[v70, v71, v72, v73]⟩) (.agg ⟨[v100, v101, v102, v103]⟩) (
 Ld H4 p3 0 fun v104 =>
 Same v63 v104 (
 Ld H69 p3 0 fun v105 =>
 Same v63 v105 (
 Ld H75 p3 0 fun v106 =>
 Same v63 v106 (
 Ld H81 p3 0 fun v107 =>
 Same v63 v107 (
 K (ptr p82 0) H83)))))))))))))))) (
 Ld H4 p3 0 fun v108 =>
 AsInt .i64 v108 fun z109 =>
 Cd (ltZ (Int.ofNat 2) z109) (
 Ld H4 p3 1 fun v110 =>
 AsLen v fun l111 =>
 Must (cvOk .i64 (Int.ofNat l111)) (
 AsNat .u64 v110 fun n112 =>
 Cd (ltN n112 (wrapN .u64 (Int.ofNat l111))) (
 Ld H4 p3 1 fun v113 =>
 AsSlc v fun p114 o115 l116 c117 =>
 AsCnt v113 fun n118 =>
 Must (ltN n118 l116) (
 Ld H4 p114 (Nat.add (Nat.add o115 (Nat.mul n118 6)) 0) fun v119 =>
 Ld H4 p3 0 fun v120 =>
 Ld H4 p1 0 fun v121 =>
 Ld H4 p1 1 fun v122 =>
 Ld H4 p1 2 fun v123 =>
 Ld H4 p1 3 fun v124 =>
 Call1 Tryz.prog con 72 [(.agg ⟨[v121, v122, v123, v124]⟩)] H4 fun v125 H126 =>
 Ld H126 p1 0 fun v127 =>
 Ld H126 p1 1 fun v128 =>
 Ld H126 p1 2 fun v129 =>
 Ld H126 p1 3 fun v130 =>
 Call1 Tryz.prog con 119 [(.agg ⟨[v127, v128, v129, v130]⟩), v119] H126 fun v131 H132 =>
 Ld H132 p1 0 fun v133 =>
 Ld H132 p1 1 fun v134 =>
 Ld H132 p1 2 fun v135 =>
 Ld H132 p1 3 fun v136 =>
 Call1 Tryz.prog con 130 [(.agg ⟨[v133, v134, v135, v136]⟩)] H132 fun v137 H138 =>
 Sc v120 (Sc v125 (Sc v131 (Sc v137 (Nw H138 (mkRow 326 0 [v120, v125, v131, v137]) fun p139 H140 =>
 Ld H4 p1 0 fun v141 =>
 Ld H4 p1 1 fun v142 =>
 Ld H4 p1 2 fun v143 =>
 Ld H4 p1 3 fun v144 =>
 Same (.agg ⟨[v133, v134, v135, v136]⟩) (.agg ⟨[v141, v142, v143, v144]⟩) (
 Ld H126 p1 0 fun v145 =>
 Ld H126 p1 1 fun v146 =>
 Ld H126 p1 2 fun v147 =>
 Ld H126 p1 3 fun v148 =>
 Same (.agg ⟨[v133, v134, v135, v136]⟩) (.agg ⟨[v145, v146, v147, v148]⟩) (
 Ld H132 p1 0 fun v149 =>
 Ld H132 p1 1 fun v150 =>
 Ld H132 p1 2 fun v151 =>
 Ld H132 p1 3 fun v152 =>
 Same (.agg ⟨[v133, v134, v135, v136]⟩) (.agg ⟨[v149, v150, v151, v152]⟩) (
 Ld H4 p1 0 fun v153 =>
 Ld H4 p1 1 fun v154 =>
 Ld H4 p1 2 fun v155 =>
 Ld H4 p1 3 fun v156 =>
 Same (.agg ⟨[v127, v128, v129, v130]⟩) (.agg ⟨[v153, v154, v155, v156]⟩) (
 Ld H126 p1 0 fun v157 =>
 Ld H126 p1 1 fun v158 =>
 Ld H126 p1 2 fun v159 =>
 Ld H126 p1 3 fun v160 =>
 Same (.agg ⟨[v127, v128, v129, v130]⟩) (.agg ⟨[v157, v158, v159, v160]⟩) (
 Ld H4 p3 0 fun v161 =>
 Same v120 v161 (
 Ld H126 p3 0 fun v162 =>
 Same v120 v162 (
 Ld H132 p3 0 fun v163 =>
 Same v120 v163 (
 Ld H138 p3 0 fun v164 =>
 Same v120 v164 (
 K (ptr p139 0) H140))))))))))))))) (
 Ld H4 p3 0 fun v165 =>
 Ld H4 p1 0 fun v166 =>
 Ld H4 p1 1 fun v167 =>
 Ld H4 p1 2 fun v168 =>
 Ld H4 p1 3 fun v169 =>
 Call1 Tryz.prog con 72 [(.agg ⟨[v166, v167, v168, v169]⟩)] H4 fun v170 H171 =>
 Ld H171 p1 0 fun v172 =>
 Ld H171 p1 1 fun v173 =>
 Ld H171 p1 2 fun v174 =>
 Ld H171 p1 3 fun v175 =>
 Call1 Tryz.prog con 119 [(.agg ⟨[v172, v173, v174, v175]⟩), (u64 (0))] H171 fun v176 H177 =>
 Ld H177 p1 0 fun v178 =>
 Ld H177 p1 1 fun v179 =>
 Ld H177 p1 2 fun v180 =>
 Ld H177 p1 3 fun v181 =>
 Call1 Tryz.prog con 130 [(.agg ⟨[v178, v179, v180, v181]⟩)] H177 fun v182 H183 =>
 Sc v165 (Sc v170 (Sc v176 (Sc v182 (Nw H183 (mkRow 326 0 [v165, v170, v176, v182]) fun p184 H185 =>
 Ld H4 p1 0 fun v186 =>
 Ld H4 p1 1 fun v187 =>
 Ld H4 p1 2 fun v188 =>
 Ld H4 p1 3 fun v189 =>
 Same (.agg ⟨[v178, v179, v180, v181]⟩) (.agg ⟨[v186, v187, v188, v189]⟩) (
 Ld H171 p1 0 fun v190 =>
 Ld H171 p1 1 fun v191 =>
 Ld H171 p1 2 fun v192 =>
 Ld H171 p1 3 fun v193 =>
 Same (.agg ⟨[v178, v179, v180, v181]⟩) (.agg ⟨[v190, v191, v192, v193]⟩) (
 Ld H177 p1 0 fun v194 =>
 Ld H177 p1 1 fun v195 =>
 Ld H177 p1 2 fun v196 =>
 Ld H177 p1 3 fun v197 =>
 Same (.agg ⟨[v178, v179, v180, v181]⟩) (.agg ⟨[v194, v195, v196, v197]⟩) (
 Ld H4 p1 0 fun v198 =>
 Ld H4 p1 1 fun v199 =>
 Ld H4 p1 2 fun v200 =>
 Ld H4 p1 3 fun v201 =>
 Same (.agg ⟨[v172, v173, v174, v175]⟩) (.agg ⟨[v198, v199, v200, v201]⟩) (
 Ld H171 p1 0 fun v202 =>
 Ld H171 p1 1 fun v203 =>
 Ld H171 p1 2 fun v204 =>
 Ld H171 p1 3 fun v205 =>
 Same (.agg ⟨[v172, v173, v174, v175]⟩) (.agg ⟨[v202, v203, v204, v205]⟩) (
 Ld H4 p3 0 fun v206 =>
 Same v165 v206 (
 Ld H171 p3 0 fun v207 =>
 Same v165 v207 (
 Ld H177 p3 0 fun v208 =>
 Same v165 v208 (
 Ld H183 p3 0 fun v209 =>
 Same v165 v209 (
 K (ptr p184 0) H185)))))))))))))))) (
 Ld H4 p3 0 fun v210 =>
 Ld H4 p1 0 fun v211 =>
 Ld H4 p1 1 fun v212 =>
 Ld H4 p1 2 fun v213 =>
 Ld H4 p1 3 fun v214 =>
 Call1 Tryz.prog con 72 [(.agg ⟨[v211, v212, v213, v214]⟩)] H4 fun v215 H216 =>
 Ld H216 p1 0 fun v217 =>
 Ld H216 p1 1 fun v218 =>
 Ld H216 p1 2 fun v219 =>
 Ld H216 p1 3 fun v220 =>
 Call1 Tryz.prog con 119 [(.agg ⟨[v217, v218, v219, v220]⟩), v5] H216 fun v221 H222 =>
 Ld H222 p1 0 fun v223 =>
 Ld H222 p1 1 fun v224 =>
 Ld H222 p1 2 fun v225 =>
 Ld H222 p1 3 fun v226 =>
 Call1 Tryz.prog con 130 [(.agg ⟨[v223, v224, v225, v226]⟩)] H222 fun v227 H228 =>
 Sc v210 (Sc v215 (Sc v221 (Sc v227 (Nw H228 (mkRow 326 0 [v210, v215, v221, v227]) fun p229 H230 =>
 Ld H4 p1 0 fun v231 =>
 Ld H4 p1 1 fun v232 =>
 Ld H4 p1 2 fun v233 =>
 Ld H4 p1 3 fun v234 =>
 Same (.agg ⟨[v223, v224, v225, v226]⟩) (.agg ⟨[v231, v232, v233, v234]⟩) (
 Ld H216 p1 0 fun v235 =>
 Ld H216 p1 1 fun v236 =>
 Ld H216 p1 2 fun v237 =>
 Ld H216 p1 3 fun v238 =>
 Same (.agg ⟨[v223, v224, v225, v226]⟩) (.agg ⟨[v235, v236, v237, v238]⟩) (
 Ld H222 p1 0 fun v239 =>
 Ld H222 p1 1 fun v240 =>
 Ld H222 p1 2 fun v241 =>
 Ld H222 p1 3 fun v242 =>
 Same (.agg ⟨[v223, v224, v225, v226]⟩) (.agg ⟨[v239, v240, v241, v242]⟩) (
 Ld H4 p1 0 fun v243 =>
 Ld H4 p1 1 fun v244 =>
 Ld H4 p1 2 fun v245 =>
 Ld H4 p1 3 fun v246 =>
 Same (.agg ⟨[v217, v218, v219, v220]⟩) (.agg ⟨[v243, v244, v245, v246]⟩) (
 Ld H216 p1 0 fun v247 =>
 Ld H216 p1 1 fun v248 =>
 Ld H216 p1 2 fun v249 =>
 Ld H216 p1 3 fun v250 =>
 Same (.agg ⟨[v217, v218, v219, v220]⟩) (.agg ⟨[v247, v248, v249, v250]⟩) (
 Ld H4 p3 0 fun v251 =>
 Same v210 v251 (
 Ld H216 p3 0 fun v252 =>
 Same v210 v252 (
 Ld H222 p3 0 fun v253 =>
 Same v210 v253 (
 Ld H228 p3 0 fun v254 =>
 Same v210 v254 (
 K (ptr p229 0) H230)))))))))))))))) := by kernel_rfl
theorem l13step1_W (con : CallT) (p q : Nat) (H : CH) (K : KP) : funW Tryz.prog con 75 [ptr p 0, ptr q 0] H K =
 (Ld H p 0 fun v1 =>
 AsInt .i64 v1 fun z2 =>
 Cd (eqZ z2 (Int.ofNat 0)) (
 Ld H p 1 fun v3 =>
 Call1 Tryz.prog con 157 [v3, (ptr q 0)] H fun v4 H5 =>
 K v4 H5) (
 AsInt .i64 v1 fun z6 =>
 Cd (eqZ z6 (Int.ofNat 2)) (
 Ld H p 3 fun v7 =>
 Call1 Tryz.prog con 158 [v7, (ptr q 0)] H fun v8 H9 =>
 K v8 H9) (
 Ld H p 2 fun v10 =>
 Call1 Tryz.prog con 159 [v10, (ptr q 0)] H fun v11 H12 =>
 K v11 H12))) := by kernel_rfl
theorem l13told_W (con : CallT) (p : Nat) (b : Bool) (H : CH) (K : KP) : funW Tryz.prog con 76 [ptr p 0, .bool b] H K =
 (Nw H (mkRow 43 0 [(u64 (0)), (u64 (0)), (iN (0)), (u64 (0)), (snil), (.bool false)]) fun p1 H2 =>
 Nw H2 (mkRow 43 0 [(u64 (0)), (u64 (0)), (iN (0)), (u64 (0)), (snil), (.bool false)]) fun p3 H4 =>
 St H4 p3 0 [(u64 (0)), (u64 (0)), (iN (0)), (u64 (0)), (snil), (.bool b)] fun H5 =>
 Ld H5 p 0 fun v6 =>
 AsInt .i64 v6 fun z7 =>
 Cd (eqZ z7 (Int.ofNat 0)) (
 Ld H5 p 1 fun v8 =>
 Call1 Tryz.prog con 34 [v8] H5 fun v9 H10 =>
 Ld H10 p 1 fun v11 =>
 Call1 Tryz.prog con 35 [v11] H10 fun v12 H13 =>
 Ld H13 p 1 fun v14 =>
 Call1 Tryz.prog con 33 [v14] H13 fun v15 H16 =>
 Sc v9 (St H16 p3 0 [v9] fun H17 =>
 Sc v12 (St H17 p3 1 [v12] fun H18 =>
 Sc v15 (St H18 p3 2 [v15] fun H19 =>
 Ld H5 p 1 fun v20 =>
 Same v14 v20 (
 Ld H10 p 1 fun v21 =>
 Same v14 v21 (
 Ld H13 p 1 fun v22 =>
 Same v14 v22 (
 Ld H5 p 1 fun v23 =>
 Same v11 v23 (
 Ld H10 p 1 fun v24 =>
 Same v11 v24 (
 Ld H19 p3 0 fun v25 =>
 Ld H19 p3 1 fun v26 =>
 Ld H19 p3 2 fun v27 =>
 Ld H19 p3 3 fun v28 =>
 Ld H19 p3 4 fun v29 =>
 Ld H19 p3 5 fun v30 =>
 St H19 p1 0 [v25, v26, v27, v28, v29, v30] fun H31 =>
 Ld H31 p1 0 fun v32 =>
 Ld H31 p1 1 fun v33 =>
 Ld H31 p1 2 fun v34 =>
 Ld H31 p1 3 fun v35 =>
 Ld H31 p1 4 fun v36 =>
 Ld H31 p1 5 fun v37 =>
 K (.agg ⟨[v32, v33, v34, v35, v36, v37]⟩) H31))))))))) (
 AsInt .i64 v6 fun z38 =>
 Cd (eqZ z38 (Int.ofNat 2)) (
 Ld H5 p 3 fun v39 =>
 Call1 Tryz.prog con 160 [v39] H5 fun v40 H41 =>
 AsAgg v40 fun l42 =>
 Must (eqN (lenF l42) 2) (
 Nth l42 0 fun v43 =>
 Nth l42 1 fun v44 =>
 St H41 p3 3 [v43, v44] fun H45 =>
 Ld H45 p3 0 fun v46 =>
 Ld H45 p3 1 fun v47 =>
 Ld H45 p3 2 fun v48 =>
 Ld H45 p3 3 fun v49 =>
 Ld H45 p3 4 fun v50 =>
 Ld H45 p3 5 fun v51 =>
 St H45 p1 0 [v46, v47, v48, v49, v50, v51] fun H52 =>
 Ld H52 p1 0 fun v53 =>
 Ld H52 p1 1 fun v54 =>
 Ld H52 p1 2 fun v55 =>
 Ld H52 p1 3 fun v56 =>
 Ld H52 p1 4 fun v57 =>
 Ld H52 p1 5 fun v58 =>
 K (.agg ⟨[v53, v54, v55, v56, v57, v58]⟩) H52)) (
 Ld H5 p 2 fun v59 =>
 Call1 Tryz.prog con 36 [v59] H5 fun v60 H61 =>
 Sc v60 (St H61 p3 2 [v60] fun H62 =>
 Ld H62 p3 0 fun v63 =>
 Ld H62 p3 1 fun v64 =>
 Ld H62 p3 2 fun v65 =>
 Ld H62 p3 3 fun v66 =>
 Ld H62 p3 4 fun v67 =>
 Ld H62 p3 5 fun v68 =>
 St H62 p1 0 [v63, v64, v65, v66, v67, v68] fun H69 =>
 Ld H69 p1 0 fun v70 =>
 Ld H69 p1 1 fun v71 =>
 Ld H69 p1 2 fun v72 =>
 Ld H69 p1 3 fun v73 =>
 Ld H69 p1 4 fun v74 =>
 Ld H69 p1 5 fun v75 =>
 K (.agg ⟨[v70, v71, v72, v73, v74, v75]⟩) H69)))) := by kernel_rfl
theorem l13memory_W (con : CallT) (n : Int) (most : Nat) (v w : Value) (H : CH) (K : KP) : funW Tryz.prog con 14 [.agg ⟨[i64 n, u64 most, v, w]⟩] H K =
 (Nw H (mkRow 26 0 [(i64 n), (u64 (most)), v, w]) fun p1 H2 =>
 Nw H2 (mkRow 29 0 [(u64 (0)), (u64 (0)), (iN (0)), (u64 (0))]) fun p3 H4 =>
 Call1 Tryz.prog con 50 [(iN (4096)), (.bool false)] H4 fun v5 H6 =>
 AsTup v5 fun l7 =>
 Nth l7 0 fun v8 =>
 AsTup v5 fun l9 =>
 Nth l9 1 fun v10 =>
 AsInt .i64 v10 fun z11 =>
 Cd (notB (eqZ z11 (Int.ofNat 0))) (
 St H6 p3 0 [(u64 (0)), (u64 (0)), (iN (0)), (u64 (0))] fun H12 =>
 Ld H12 p3 0 fun v13 =>
 Ld H12 p3 1 fun v14 =>
 Ld H12 p3 2 fun v15 =>
 Ld H12 p3 3 fun v16 =>
 K (.tuple ⟨[(.pointer none), (.agg ⟨[v13, v14, v15, v16]⟩), (.bool false)]⟩) H12) (
 Call1 Tryz.prog con 28 [v8, (i64 (Int.negSucc 0))] H6 fun v17 H18 =>
 Nw H18 (mkRow 22 0 [(u64 (1))]) fun p19 H20 =>
 Call1 Tryz.prog con 70 [v17, (.slice (some ⟨p19, 0, none⟩) 1 1)] H20 fun v21 H22 =>
 Ld H22 p1 0 fun v23 =>
 Ld H22 p1 1 fun v24 =>
 Call1 Tryz.prog con 71 [v17, v21, v23, v24] H22 fun v25 H26 =>
 AsTup v25 fun l27 =>
 Nth l27 0 fun v28 =>
 AsTup v25 fun l29 =>
 Nth l29 1 fun v30 =>
 Nw H26 (mkRow 29 0 [(u64 (0)), (u64 (0)), (iN (0)), (u64 (0))]) fun p31 H32 =>
 AsAgg v28 fun l33 =>
 Must (eqN (lenF l33) 4) (
 Nth l33 0 fun v34 =>
 Nth l33 1 fun v35 =>
 Nth l33 2 fun v36 =>
 Nth l33 3 fun v37 =>
 St H32 p31 0 [v34, v35, v36, v37] fun H38 =>
 Ld H38 p31 0 fun v39 =>
 Ld H38 p31 1 fun v40 =>
 Ld H38 p31 2 fun v41 =>
 Ld H38 p31 3 fun v42 =>
 AsInt .i64 v30 fun z43 =>
 St H38 p3 0 [v39, v40, v41, v42] fun H44 =>
 AsInt .i64 v30 fun z45 =>
 Same (.bool (eqZ z43 (Int.ofNat 0))) (.bool (eqZ z45 (Int.ofNat 0))) (
 AsInt .i64 v30 fun z46 =>
 Same (.bool (eqZ z43 (Int.ofNat 0))) (.bool (eqZ z46 (Int.ofNat 0))) (
 Ld H44 p3 0 fun v47 =>
 Ld H44 p3 1 fun v48 =>
 Ld H44 p3 2 fun v49 =>
 Ld H44 p3 3 fun v50 =>
 K (.tuple ⟨[v8, (.agg ⟨[v47, v48, v49, v50]⟩), (.bool (eqZ z43 (Int.ofNat 0)))]⟩) H44))))) := by kernel_rfl
theorem l13run_W (con : CallT) (m xa xb : Nat) (z : Int) (xd : Nat) (n : Int) (most : Nat) (v w : Value) (H : CH) (K : KP) : funW Tryz.prog con 17 [ptr m 0, .agg ⟨[u64 xa, u64 xb, i64 z, u64 xd]⟩, .agg ⟨[i64 n, u64 most, v, w]⟩] H K =
 (Nw H (mkRow 29 0 [(u64 (xa)), (u64 (xb)), (i64 z), (u64 (xd))]) fun p1 H2 =>
 Nw H2 (mkRow 26 0 [(i64 n), (u64 (most)), v, w]) fun p3 H4 =>
 Ld H4 p3 2 fun v5 =>
 AsLen v5 fun l6 =>
 MkS Tryz.prog H4 34 (iN (l6)) (iN (l6)) fun v7 H8 =>
 Ld H8 p3 2 fun v9 =>
 AsLen v9 fun l10 =>
 MkS Tryz.prog H8 202 (iN (l10)) (iN (l10)) fun v11 H12 =>
 Ld H12 p3 2 fun v13 =>
 AsLen v13 fun l14 =>
 MkS Tryz.prog H12 24 (iN (l14)) (iN (l14)) fun v15 H16 =>
 LoopC Tryz.prog con (lpAt Tryz.prog 17 0) (upd (upd (upd (upd (upd (upd (upd (upd (upd (upd (upd (upd (upd (upd (upd (upd (upd (upd (upd (upd (upd (upd (upd (upd (fun _ => undV) 2 (.agg ⟨[(i64 n), (u64 (most)), v, w]⟩)) 1 (.agg ⟨[(u64 (xa)), (u64 (xb)), (i64 z), (u64 (xd))]⟩)) 0 (ptr m 0)) 4 (ptr p1 0)) 5 (ptr p3 0)) 6 (snil)) 7 (snil)) 18 (ptr p3 2)) 19 v5) 20 (iN (l6))) 21 v7) 8 v7) 22 (ptr p3 2)) 23 v9) 24 (iN (l10))) 25 v11) 9 v11) 26 (ptr p3 2)) 27 v13) 28 (iN (l14))) 29 v15) 10 v15) 11 (snil)) 12 (iN (0))) H16 (fun e => ceP e
 (fun a17 H18 =>
 LoopC Tryz.prog con (lpAt Tryz.prog 17 1) (upd (upd a17 13 (snil)) 14 (iN (0))) H18 (fun e => ceP e
 (fun a20 H21 =>
 K (.tuple ⟨[(a20 8), (a20 13)]⟩) H21)
 (fun i22 => fun a20 H21 =>
 Cd (eqN i22 2) (
 K (.tuple ⟨[(a20 8), (a20 13)]⟩) H21) (
 False))
 (fun a20 H21 =>
 K (.tuple ⟨[(a20 6), (a20 7)]⟩) H21)))
 (fun i19 => fun a17 H18 =>
 Cd (eqN i19 0) (
 LoopC Tryz.prog con (lpAt Tryz.prog 17 1) (upd (upd a17 13 (snil)) 14 (iN (0))) H18 (fun e => ceP e
 (fun a23 H24 =>
 K (.tuple ⟨[(a23 8), (a23 13)]⟩) H24)
 (fun i25 => fun a23 H24 =>
 Cd (eqN i25 2) (
 K (.tuple ⟨[(a23 8), (a23 13)]⟩) H24) (
 False))
 (fun a23 H24 =>
 K (.tuple ⟨[(a23 6), (a23 7)]⟩) H24))) (
 False))
 (fun a17 H18 =>
 K (.tuple ⟨[(a17 6), (a17 7)]⟩) H18))) := by kernel_rfl
theorem l13runA_W (con : CallT) (a : TF) (H : CH) (K : KX) : codeW (lpAt Tryz.prog 17 0) Tryz.prog con a H K =
 (AsPtr (a 5) fun p1 o2 =>
 Ld H p1 (Nat.add o2 2) fun v3 =>
 AsLen v3 fun l4 =>
 AsInt .i64 (a 12) fun z5 =>
 Cd (ltZ z5 (Int.ofNat l4)) (
 Call1 Tryz.prog con 28 [(a 0), (a 12)] H fun v6 H7 =>
 Sc v6 (Nw H7 (mkRow 68 0 [v6]) fun p8 H9 =>
 App Tryz.prog 203 203 H9 (a 11) (.slice (some ⟨p8, 0, none⟩) 1 1) fun v10 H11 =>
 AsInt .i64 (a 12) fun z12 =>
 InR (Int.add z12 (Int.ofNat 1)) (
 K .normal (upd (upd (upd (upd (upd (upd (upd (upd (upd (upd (upd (upd (upd (upd (upd a 30 (a 12)) 31 (ptr p1 (Nat.add o2 2))) 32 v3) 33 (iN (l4))) 34 (.bool (ltZ z5 (Int.ofNat l4)))) 37 (a 11)) 38 (a 0)) 39 (a 12)) 40 v6) 41 (.slice (some ⟨p8, 0, none⟩) 1 1)) 42 v10) 11 v10) 35 (a 12)) 36 (i64 (Int.add z12 (Int.ofNat 1)))) 12 (i64 (Int.add z12 (Int.ofNat 1)))) H11))) (
 K (.exit 0) (upd (upd (upd (upd (upd a 30 (a 12)) 31 (ptr p1 (Nat.add o2 2))) 32 v3) 33 (iN (l4))) 34 (.bool (ltZ z5 (Int.ofNat l4)))) H)) := by kernel_rfl
theorem l13runB_W (con : CallT) (a : TF) (H : CH) (K : KX) : codeW (lpAt Tryz.prog 17 1) Tryz.prog con a H K =
 (AsPtr (a 5) fun p1 o2 =>
 Ld H p1 (Nat.add o2 3) fun v3 =>
 AsLen v3 fun l4 =>
 AsInt .i64 (a 14) fun z5 =>
 Cd (ltZ z5 (Int.ofNat l4)) (
 AsPtr (a 5) fun p6 o7 =>
 Ld H p6 (Nat.add o7 3) fun v8 =>
 AsSlc v8 fun p9 o10 l11 c12 =>
 AsCnt (a 14) fun n13 =>
 Must (ltN n13 l11) (
 Ld H p9 (Nat.add o10 (Nat.mul n13 1)) fun v14 =>
 AsInt .i64 v14 fun z15 =>
 Cd (ltZ z15 (Int.ofNat 0)) (
 AsInt .i64 (a 14) fun z16 =>
 InR (Int.add z16 (Int.ofNat 1)) (
 K .normal (upd (upd (upd (upd (upd (upd (upd (upd (upd (upd (upd (upd (upd (upd (upd (upd (upd (upd (upd (upd (upd (upd (upd (upd (upd (upd (upd (upd a 43 (a 14)) 44 (ptr p1 (Nat.add o2 3))) 45 v3) 46 (iN (l4))) 47 (.bool (ltZ z5 (Int.ofNat l4)))) 50 (ptr p6 (Nat.add o7 3))) 51 v8) 52 (a 14)) 53 (ptr p9 (Nat.add o10 (Nat.mul n13 1)))) 54 v14) 15 v14) 55 v14) 56 (.bool (ltZ z15 (Int.ofNat 0)))) 57 (.bool (ltZ z15 (Int.ofNat 0)))) 57 (.bool true)) 58 (.tuple ⟨[]⟩)) 57 (.bool true)) 59 (.tuple ⟨[]⟩)) 57 (.bool true)) 60 (.tuple ⟨[]⟩)) 57 (.bool true)) 61 (.tuple ⟨[]⟩)) 57 (.bool true)) 62 (.tuple ⟨[]⟩)) 63 (.bool true)) 48 (a 14)) 49 (i64 (Int.add z16 (Int.ofNat 1)))) 14 (i64 (Int.add z16 (Int.ofNat 1)))) H)) (
 AsPtr (a 5) fun p17 o18 =>
 Ld H p17 (Nat.add o18 2) fun v19 =>
 AsLen v19 fun l20 =>
 AsInt .i64 v14 fun z21 =>
 Cd (leZ (Int.ofNat l20) z21) (
 AsInt .i64 (a 14) fun z22 =>
 InR (Int.add z22 (Int.ofNat 1)) (
 K .normal (upd (upd (upd (upd (upd (upd (upd (upd (upd (upd (upd (upd (upd (upd (upd (upd (upd (upd (upd (upd (upd (upd (upd (upd (upd (upd (upd (upd a 43 (a 14)) 44 (ptr p1 (Nat.add o2 3))) 45 v3) 46 (iN (l4))) 47 (.bool (ltZ z5 (Int.ofNat l4)))) 50 (ptr p6 (Nat.add o7 3))) 51 v8) 52 (a 14)) 53 (ptr p9 (Nat.add o10 (Nat.mul n13 1)))) 54 v14) 15 v14) 55 v14) 56 (.bool (ltZ z15 (Int.ofNat 0)))) 57 (.bool (ltZ z15 (Int.ofNat 0)))) 57 (.bool false)) 58 v14) 57 (.bool false)) 59 (ptr p17 (Nat.add o18 2))) 57 (.bool false)) 60 v19) 57 (.bool false)) 61 (iN (l20))) 57 (.bool false)) 62 (.bool (leZ (Int.ofNat l20) z21))) 63 (.bool (leZ (Int.ofNat l20) z21))) 48 (a 14)) 49 (i64 (Int.add z22 (Int.ofNat 1)))) 14 (i64 (Int.add z22 (Int.ofNat 1)))) H)) (
 AsSlc (a 8) fun p23 o24 l25 c26 =>
 AsCnt v14 fun n27 =>
 Must (ltN n27 l25) (
 Ld H p23 (Nat.add o24 (Nat.mul n27 1)) fun v28 =>
 AsLen v28 fun l29 =>
 AsSlc (a 9) fun p30 o31 l32 c33 =>
 AsCnt v14 fun n34 =>
 Must (ltN n34 l32) (
 Ld H p30 (Nat.add o31 (Nat.mul n34 1)) fun v35 =>
 IsNil .ptr v35 fun b36 =>
 Cd b36 (
 AsPtr (a 5) fun p37 o38 =>
 Ld H p37 (Nat.add o38 2) fun v39 =>
 AsSlc v39 fun p40 o41 l42 c43 =>
 AsCnt v14 fun n44 =>
 Must (ltN n44 l42) (
 Ld H p40 (Nat.add o41 (Nat.mul n44 1)) fun v45 =>
 AsLen v45 fun l46 =>
 Cd (leZ (Int.ofNat l46) (Int.ofNat l29)) (
 AsInt .i64 (a 14) fun z47 =>
 InR (Int.add z47 (Int.ofNat 1)) (
 K .normal (upd (upd (upd (upd (upd (upd (upd (upd (upd (upd (upd (upd (upd (upd (upd (upd (upd (upd (upd (upd (upd (upd (upd (upd (upd (upd (upd (upd (upd (upd (upd (upd (upd (upd (upd (upd (upd (upd (upd (upd (upd (upd (upd (upd (upd (upd (upd a 43 (a 14)) 44 (ptr p1 (Nat.add o2 3))) 45 v3) 46 (iN (l4))) 47 (.bool (ltZ z5 (Int.ofNat l4)))) 50 (ptr p6 (Nat.add o7 3))) 51 v8) 52 (a 14)) 53 (ptr p9 (Nat.add o10 (Nat.mul n13 1)))) 54 v14) 15 v14) 55 v14) 56 (.bool (ltZ z15 (Int.ofNat 0)))) 57 (.bool (ltZ z15 (Int.ofNat 0)))) 57 (.bool false)) 58 v14) 57 (.bool false)) 59 (ptr p17 (Nat.add o18 2))) 57 (.bool false)) 60 v19) 57 (.bool false)) 61 (iN (l20))) 57 (.bool false)) 62 (.bool (leZ (Int.ofNat l20) z21))) 63 (.bool (leZ (Int.ofNat l20) z21))) 64 (a 8)) 65 v14) 66 (ptr p23 (Nat.add o24 (Nat.mul n27 1)))) 67 v28) 68 (iN (l29))) 16 (iN (l29))) 69 (a 9)) 70 v14) 71 (ptr p30 (Nat.add o31 (Nat.mul n34 1)))) 72 v35) 73 (.bool b36)) 74 (iN (l29))) 75 (ptr p37 (Nat.add o38 2))) 76 v39) 77 v14) 78 (ptr p40 (Nat.add o41 (Nat.mul n44 1)))) 79 v45) 80 (iN (l46))) 81 (.bool (leZ (Int.ofNat l46) (Int.ofNat l29)))) 48 (a 14)) 49 (i64 (Int.add z47 (Int.ofNat 1)))) 14 (i64 (Int.add z47 (Int.ofNat 1)))) H)) (
 AsPtr (a 4) fun p48 o49 =>
 Ld H p48 (Nat.add o49 0) fun v50 =>
 Ld H p48 (Nat.add o49 1) fun v51 =>
 Ld H p48 (Nat.add o49 2) fun v52 =>
 Ld H p48 (Nat.add o49 3) fun v53 =>
 AsPtr (a 5) fun p54 o55 =>
 Ld H p54 (Nat.add o55 2) fun v56 =>
 AsSlc v56 fun p57 o58 l59 c60 =>
 AsCnt v14 fun n61 =>
 Must (ltN n61 l59) (
 Ld H p57 (Nat.add o58 (Nat.mul n61 1)) fun v62 =>
 AsSlc v62 fun p63 o64 l65 c66 =>
 Must (ltN l29 l65) (
 Ld H p63 (Nat.add (Nat.add o64 (Nat.mul l29 2)) 0) fun v67 =>
 Ld H p63 (Nat.add (Nat.add o64 (Nat.mul l29 2)) 1) fun v68 =>
 AsSlc (a 8) fun p69 o70 l71 c72 =>
 AsCnt v14 fun n73 =>
 Must (ltN n73 l71) (
 Ld H p69 (Nat.add o70 (Nat.mul n73 1)) fun v74 =>
 Call1 Tryz.prog con 74 [(.agg ⟨[v50, v51, v52, v53]⟩), (.agg ⟨[v67, v68]⟩), v74] H fun v75 H76 =>
 AsSlc (a 9) fun p77 o78 l79 c80 =>
 AsCnt v14 fun n81 =>
 Must (ltN n81 l79) (
 Sc v75 (St H76 p77 (Nat.add o78 (Nat.mul n81 1)) [v75] fun H82 =>
 AsSlc (a 8) fun p83 o84 l85 c86 =>
 AsCnt v14 fun n87 =>
 Must (ltN n87 l85) (
 Ld H82 p83 (Nat.add o84 (Nat.mul n87 1)) fun v88 =>
 Nw H82 (mkRow 43 0 [(u64 (0)), (u64 (0)), (iN (0)), (u64 (0)), (snil), (.bool false)]) fun p89 H90 =>
 App Tryz.prog 204 204 H90 v88 (.slice (some ⟨p89, 0, none⟩) 1 1) fun v91 H92 =>
 AsSlc (a 8) fun p93 o94 l95 c96 =>
 AsCnt v14 fun n97 =>
 Must (ltN n97 l95) (
 Sc v91 (St H92 p93 (Nat.add o94 (Nat.mul n97 1)) [v91] fun H98 =>
 AsLen (a 13) fun l99 =>
 AsSlc (a 10) fun p100 o101 l102 c103 =>
 AsCnt v14 fun n104 =>
 Must (ltN n104 l102) (
 St H98 p100 (Nat.add o101 (Nat.mul n104 1)) [(iN (l99))] fun H105 =>
 AsPtr (a 5) fun p106 o107 =>
 Ld H105 p106 (Nat.add o107 2) fun v108 =>
 AsSlc v108 fun p109 o110 l111 c112 =>
 AsCnt v14 fun n113 =>
 Must (ltN n113 l111) (
 Ld H105 p109 (Nat.add o110 (Nat.mul n113 1)) fun v114 =>
 AsSlc v114 fun p115 o116 l117 c118 =>
 Must (ltN l29 l117) (
 Ld H105 p115 (Nat.add (Nat.add o116 (Nat.mul l29 2)) 0) fun v119 =>
 Ld H105 p115 (Nat.add (Nat.add o116 (Nat.mul l29 2)) 1) fun v120 =>
 Sc (a 14) (Sc v14 (Nw H105 (mkRow 47 0 [(u64 (0)), (u64 (0)), (iN (0)), (u64 (0)), (snil), (.bool false), (a 14), (i64 (Int.negSucc 0)), v14, v119, v120]) fun p121 H122 =>
 App Tryz.prog 35 35 H122 (a 13) (.slice (some ⟨p121, 0, none⟩) 1 1) fun v123 H124 =>
 InR (Int.add (Int.ofNat l29) (Int.ofNat 1)) (
 AsSlc (a 9) fun p125 o126 l127 c128 =>
 AsCnt v14 fun n129 =>
 Must (ltN n129 l127) (
 Ld H124 p125 (Nat.add o126 (Nat.mul n129 1)) fun v130 =>
 AsSlc (a 11) fun p131 o132 l133 c134 =>
 AsCnt v14 fun n135 =>
 Must (ltN n135 l133) (
 Ld H124 p131 (Nat.add o132 (Nat.mul n135 1)) fun v136 =>
 Call1 Tryz.prog con 75 [v130, v136] H124 fun v137 H138 =>
 AsSlc (a 8) fun p139 o140 l141 c142 =>
 AsCnt v14 fun n143 =>
 Must (ltN n143 l141) (
 Ld H138 p139 (Nat.add o140 (Nat.mul n143 1)) fun v144 =>
 InR (Int.sub (Int.add (Int.ofNat l29) (Int.ofNat 1)) (Int.ofNat 1)) (
 AsSlc (a 9) fun p145 o146 l147 c148 =>
 AsCnt v14 fun n149 =>
 Must (ltN n149 l147) (
 Ld H138 p145 (Nat.add o146 (Nat.mul n149 1)) fun v150 =>
 Call1 Tryz.prog con 76 [v150, v137] H138 fun v151 H152 =>
 AsSlc v144 fun p153 o154 l155 c156 =>
 AsCnt (i64 (Int.sub (Int.add (Int.ofNat l29) (Int.ofNat 1)) (Int.ofNat 1))) fun n157 =>
 Must (ltN n157 l155) (
 AsAgg v151 fun l158 =>
 Must (eqN (lenF l158) 6) (
 Nth l158 0 fun v159 =>
 Nth l158 1 fun v160 =>
 Nth l158 2 fun v161 =>
 Nth l158 3 fun v162 =>
 Nth l158 4 fun v163 =>
 Nth l158 5 fun v164 =>
 St H152 p153 (Nat.add o154 (Nat.mul n157 6)) [v159, v160, v161, v162, v163, v164] fun H165 =>
 Ld H138 p139 (Nat.add o140 (Nat.mul n143 1)) fun v166 =>
 Same v144 v166 (
 Ld H152 p139 (Nat.add o140 (Nat.mul n143 1)) fun v167 =>
 Same v144 v167 (
 AsSlc (a 10) fun p168 o169 l170 c171 =>
 AsCnt v14 fun n172 =>
 Must (ltN n172 l170) (
 Ld H165 p168 (Nat.add o169 (Nat.mul n172 1)) fun v173 =>
 AsSlc (a 8) fun p174 o175 l176 c177 =>
 AsCnt v14 fun n178 =>
 Must (ltN n178 l176) (
 Ld H165 p174 (Nat.add o175 (Nat.mul n178 1)) fun v179 =>
 InR (Int.sub (Int.add (Int.ofNat l29) (Int.ofNat 1)) (Int.ofNat 1)) (
 AsSlc v179 fun p180 o181 l182 c183 =>
 AsCnt (i64 (Int.sub (Int.add (Int.ofNat l29) (Int.ofNat 1)) (Int.ofNat 1))) fun n184 =>
 Must (ltN n184 l182) (
 Ld H165 p180 (Nat.add (Nat.add o181 (Nat.mul n184 6)) 0) fun v185 =>
 Ld H165 p180 (Nat.add (Nat.add o181 (Nat.mul n184 6)) 1) fun v186 =>
 Ld H165 p180 (Nat.add (Nat.add o181 (Nat.mul n184 6)) 2) fun v187 =>
 Ld H165 p180 (Nat.add (Nat.add o181 (Nat.mul n184 6)) 3) fun v188 =>
 Ld H165 p180 (Nat.add (Nat.add o181 (Nat.mul n184 6)) 4) fun v189 =>
 Ld H165 p180 (Nat.add (Nat.add o181 (Nat.mul n184 6)) 5) fun v190 =>
 AsSlc v123 fun p191 o192 l193 c194 =>
 AsCnt v173 fun n195 =>
 Must (ltN n195 l193) (
 St H165 p191 (Nat.add (Nat.add o192 (Nat.mul n195 11)) 0) [v185, v186, v187, v188, v189, v190] fun H196 =>
 AsBool v137 fun b197 =>
 Cd b197 (
 AsSlc (a 10) fun p198 o199 l200 c201 =>
 AsCnt v14 fun n202 =>
 Must (ltN n202 l200) (
 Ld H196 p198 (Nat.add o199 (Nat.mul n202 1)) fun v203 =>
 AsSlc v123 fun p204 o205 l206 c207 =>
 AsCnt v203 fun n208 =>
 Must (ltN n208 l206) (
 Sc (a 14) (St H196 p204 (Nat.add (Nat.add o205 (Nat.mul n208 11)) 7) [(a 14)] fun H209 =>
 AsSlc (a 9) fun p210 o211 l212 c213 =>
 AsCnt v14 fun n214 =>
 Must (ltN n214 l212) (
 St H209 p210 (Nat.add o211 (Nat.mul n214 1)) [(.pointer none)] fun H215 =>
 AsInt .i64 (a 14) fun z216 =>
 InR (Int.add z216 (Int.ofNat 1)) (
 K .normal (upd (upd (upd (upd (upd (upd (upd (upd (upd (upd (upd (upd (upd (upd (upd (upd (upd (upd (upd (upd (upd (upd (upd (upd (upd (upd (upd (upd (upd (upd (upd (upd (upd (upd (upd (upd (upd (upd (upd (upd (upd (upd (upd (upd (upd (upd (upd (upd (upd (upd (upd (upd (upd (upd (upd (upd (upd (upd (upd (upd (upd (upd (upd (upd (upd (upd (upd (upd (upd (upd (upd (upd (upd (upd (upd (upd (upd (upd (upd (upd (upd (upd (upd (upd (upd (upd (upd (upd (upd (upd (upd (upd (upd (upd (upd (upd (upd (upd (upd (upd (upd (upd (upd (upd (upd (upd (upd (upd (upd (upd (upd (upd (upd (upd (upd (upd (upd (upd (upd (upd (upd (upd (upd (upd (upd (upd (upd (upd (upd (upd (upd (upd (upd (upd (upd (upd (upd (upd (upd (upd (upd (upd (upd (upd (upd (upd (upd a 43 (a 14)) 44 (ptr p1 (Nat.add o2 3))) 45 v3) 46 (iN (l4))) 47 (.bool (ltZ z5 (Int.ofNat l4)))) 50 (ptr p6 (Nat.add o7 3))) 51 v8) 52 (a 14)) 53 (ptr p9 (Nat.add o10 (Nat.mul n13 1)))) 54 v14) 15 v14) 55 v14) 56 (.bool (ltZ z15 (Int.ofNat 0)))) 57 (.bool (ltZ z15 (Int.ofNat 0)))) 57 (.bool false)) 58 v14) 57 (.bool false)) 59 (ptr p17 (Nat.add o18 2))) 57 (.bool false)) 60 v19) 57 (.bool false)) 61 (iN (l20))) 57 (.bool false)) 62 (.bool (leZ (Int.ofNat l20) z21))) 63 (.bool (leZ (Int.ofNat l20) z21))) 64 (a 8)) 65 v14) 66 (ptr p23 (Nat.add o24 (Nat.mul n27 1)))) 67 v28) 68 (iN (l29))) 16 (iN (l29))) 69 (a 9)) 70 v14) 71 (ptr p30 (Nat.add o31 (Nat.mul n34 1)))) 72 v35) 73 (.bool b36)) 74 (iN (l29))) 75 (ptr p37 (Nat.add o38 2))) 76 v39) 77 v14) 78 (ptr p40 (Nat.add o41 (Nat.mul n44 1)))) 79 v45) 80 (iN (l46))) 81 (.bool (leZ (Int.ofNat l46) (Int.ofNat l29)))) 82 (a 9)) 83 v14) 84 (.agg ⟨[v50, v51, v52, v53]⟩)) 85 (ptr p54 (Nat.add o55 2))) 86 v56) 87 v14) 88 (ptr p57 (Nat.add o58 (Nat.mul n61 1)))) 89 v62) 90 (iN (l29))) 91 (ptr p63 (Nat.add o64 (Nat.mul l29 2)))) 92 (.agg ⟨[v67, v68]⟩)) 93 (a 8)) 94 v14) 95 (ptr p69 (Nat.add o70 (Nat.mul n73 1)))) 96 v74) 97 v75) 98 (ptr p77 (Nat.add o78 (Nat.mul n81 1)))) 99 (a 8)) 100 v14) 101 (a 8)) 102 v14) 103 (ptr p83 (Nat.add o84 (Nat.mul n87 1)))) 104 v88) 105 (.agg ⟨[(u64 (0)), (u64 (0)), (iN (0)), (u64 (0)), (snil), (.bool false)]⟩)) 106 (.slice (some ⟨p89, 0, none⟩) 1 1)) 107 v91) 108 (ptr p93 (Nat.add o94 (Nat.mul n97 1)))) 109 (a 10)) 110 v14) 111 (a 13)) 112 (iN (l99))) 113 (ptr p100 (Nat.add o101 (Nat.mul n104 1)))) 114 (a 13)) 115 (a 14)) 116 v14) 117 (ptr p106 (Nat.add o107 2))) 118 v108) 119 v14) 120 (ptr p109 (Nat.add o110 (Nat.mul n113 1)))) 121 v114) 122 (iN (l29))) 123 (ptr p115 (Nat.add o116 (Nat.mul l29 2)))) 124 (.agg ⟨[v119, v120]⟩)) 125 (.agg ⟨[(u64 (0)), (u64 (0)), (iN (0)), (u64 (0)), (snil), (.bool false), (a 14), (i64 (Int.negSucc 0)), v14, v119, v120]⟩)) 126 (.slice (some ⟨p121, 0, none⟩) 1 1)) 127 v123) 13 v123) 128 (iN (l29))) 129 (i64 (Int.add (Int.ofNat l29) (Int.ofNat 1)))) 16 (i64 (Int.add (Int.ofNat l29) (Int.ofNat 1)))) 130 (a 9)) 131 v14) 132 (ptr p125 (Nat.add o126 (Nat.mul n129 1)))) 133 v130) 134 (a 11)) 135 v14) 136 (ptr p131 (Nat.add o132 (Nat.mul n135 1)))) 137 v136) 138 v137) 17 v137) 139 (a 8)) 140 v14) 141 (ptr p139 (Nat.add o140 (Nat.mul n143 1)))) 142 v144) 143 (i64 (Int.add (Int.ofNat l29) (Int.ofNat 1)))) 144 (i64 (Int.sub (Int.add (Int.ofNat l29) (Int.ofNat 1)) (Int.ofNat 1)))) 145 (a 9)) 146 v14) 147 (ptr p145 (Nat.add o146 (Nat.mul n149 1)))) 148 v150) 149 v137) 150 v151) 151 (ptr p153 (Nat.add o154 (Nat.mul n157 6)))) 152 v123) 153 (a 10)) 154 v14) 155 (ptr p168 (Nat.add o169 (Nat.mul n172 1)))) 156 v173) 157 (a 8)) 158 v14) 159 (ptr p174 (Nat.add o175 (Nat.mul n178 1)))) 160 v179) 161 (i64 (Int.add (Int.ofNat l29) (Int.ofNat 1)))) 162 (i64 (Int.sub (Int.add (Int.ofNat l29) (Int.ofNat 1)) (Int.ofNat 1)))) 163 (ptr p180 (Nat.add o181 (Nat.mul n184 6)))) 164 (.agg ⟨[v185, v186, v187, v188, v189, v190]⟩)) 165 (ptr p191 (Nat.add o192 (Nat.mul n195 11)))) 166 (ptr p191 (Nat.add (Nat.add o192 (Nat.mul n195 11)) 0))) 167 v137) 168 v123) 169 (a 10)) 170 v14) 171 (ptr p198 (Nat.add o199 (Nat.mul n202 1)))) 172 v203) 173 (a 14)) 174 (ptr p204 (Nat.add o205 (Nat.mul n208 11)))) 175 (ptr p204 (Nat.add (Nat.add o205 (Nat.mul n208 11)) 7))) 176 (a 9)) 177 v14) 178 (ptr p210 (Nat.add o211 (Nat.mul n214 1)))) 48 (a 14)) 49 (i64 (Int.add z216 (Int.ofNat 1)))) 14 (i64 (Int.add z216 (Int.ofNat 1)))) H215)))))) (
 AsInt .i64 (a 14) fun z217 =>
 InR (Int.add z217 (Int.ofNat 1)) (
 K .normal (upd (upd (upd (upd (upd (upd (upd (upd (upd (upd (upd (upd (upd (upd (upd (upd (upd (upd (upd (upd (upd (upd (upd (upd (upd (upd (upd (upd (upd (upd (upd (upd (upd (upd (upd (upd (upd (upd (upd (upd (upd (upd (upd (upd (upd (upd (upd (upd (upd (upd (upd (upd (upd (upd (upd (upd (upd (upd (upd (upd (upd (upd (upd (upd (upd (upd (upd (upd (upd (upd (upd (upd (upd (upd (upd (upd (upd (upd (upd (upd (upd (upd (upd (upd (upd (upd (upd (upd (upd (upd (upd (upd (upd (upd (upd (upd (upd (upd (upd (upd (upd (upd (upd (upd (upd (upd (upd (upd (upd (upd (upd (upd (upd (upd (upd (upd (upd (upd (upd (upd (upd (upd (upd (upd (upd (upd (upd (upd (upd (upd (upd (upd (upd (upd (upd (upd a 43 (a 14)) 44 (ptr p1 (Nat.add o2 3))) 45 v3) 46 (iN (l4))) 47 (.bool (ltZ z5 (Int.ofNat l4)))) 50 (ptr p6 (Nat.add o7 3))) 51 v8) 52 (a 14)) 53 (ptr p9 (Nat.add o10 (Nat.mul n13 1)))) 54 v14) 15 v14) 55 v14) 56 (.bool (ltZ z15 (Int.ofNat 0)))) 57 (.bool (ltZ z15 (Int.ofNat 0)))) 57 (.bool false)) 58 v14) 57 (.bool false)) 59 (ptr p17 (Nat.add o18 2))) 57 (.bool false)) 60 v19) 57 (.bool false)) 61 (iN (l20))) 57 (.bool false)) 62 (.bool (leZ (Int.ofNat l20) z21))) 63 (.bool (leZ (Int.ofNat l20) z21))) 64 (a 8)) 65 v14) 66 (ptr p23 (Nat.add o24 (Nat.mul n27 1)))) 67 v28) 68 (iN (l29))) 16 (iN (l29))) 69 (a 9)) 70 v14) 71 (ptr p30 (Nat.add o31 (Nat.mul n34 1)))) 72 v35) 73 (.bool b36)) 74 (iN (l29))) 75 (ptr p37 (Nat.add o38 2))) 76 v39) 77 v14) 78 (ptr p40 (Nat.add o41 (Nat.mul n44 1)))) 79 v45) 80 (iN (l46))) 81 (.bool (leZ (Int.ofNat l46) (Int.ofNat l29)))) 82 (a 9)) 83 v14) 84 (.agg ⟨[v50, v51, v52, v53]⟩)) 85 (ptr p54 (Nat.add o55 2))) 86 v56) 87 v14) 88 (ptr p57 (Nat.add o58 (Nat.mul n61 1)))) 89 v62) 90 (iN (l29))) 91 (ptr p63 (Nat.add o64 (Nat.mul l29 2)))) 92 (.agg ⟨[v67, v68]⟩)) 93 (a 8)) 94 v14) 95 (ptr p69 (Nat.add o70 (Nat.mul n73 1)))) 96 v74) 97 v75) 98 (ptr p77 (Nat.add o78 (Nat.mul n81 1)))) 99 (a 8)) 100 v14) 101 (a 8)) 102 v14) 103 (ptr p83 (Nat.add o84 (Nat.mul n87 1)))) 104 v88) 105 (.agg ⟨[(u64 (0)), (u64 (0)), (iN (0)), (u64 (0)), (snil), (.bool false)]⟩)) 106 (.slice (some ⟨p89, 0, none⟩) 1 1)) 107 v91) 108 (ptr p93 (Nat.add o94 (Nat.mul n97 1)))) 109 (a 10)) 110 v14) 111 (a 13)) 112 (iN (l99))) 113 (ptr p100 (Nat.add o101 (Nat.mul n104 1)))) 114 (a 13)) 115 (a 14)) 116 v14) 117 (ptr p106 (Nat.add o107 2))) 118 v108) 119 v14) 120 (ptr p109 (Nat.add o110 (Nat.mul n113 1)))) 121 v114) 122 (iN (l29))) 123 (ptr p115 (Nat.add o116 (Nat.mul l29 2)))) 124 (.agg ⟨[v119, v120]⟩)) 125 (.agg ⟨[(u64 (0)), (u64 (0)), (iN (0)), (u64 (0)), (snil), (.bool false), (a 14), (i64 (Int.negSucc 0)), v14, v119, v120]⟩)) 126 (.slice (some ⟨p121, 0, none⟩) 1 1)) 127 v123) 13 v123) 128 (iN (l29))) 129 (i64 (Int.add (Int.ofNat l29) (Int.ofNat 1)))) 16 (i64 (Int.add (Int.ofNat l29) (Int.ofNat 1)))) 130 (a 9)) 131 v14) 132 (ptr p125 (Nat.add o126 (Nat.mul n129 1)))) 133 v130) 134 (a 11)) 135 v14) 136 (ptr p131 (Nat.add o132 (Nat.mul n135 1)))) 137 v136) 138 v137) 17 v137) 139 (a 8)) 140 v14) 141 (ptr p139 (Nat.add o140 (Nat.mul n143 1)))) 142 v144) 143 (i64 (Int.add (Int.ofNat l29) (Int.ofNat 1)))) 144 (i64 (Int.sub (Int.add (Int.ofNat l29) (Int.ofNat 1)) (Int.ofNat 1)))) 145 (a 9)) 146 v14) 147 (ptr p145 (Nat.add o146 (Nat.mul n149 1)))) 148 v150) 149 v137) 150 v151) 151 (ptr p153 (Nat.add o154 (Nat.mul n157 6)))) 152 v123) 153 (a 10)) 154 v14) 155 (ptr p168 (Nat.add o169 (Nat.mul n172 1)))) 156 v173) 157 (a 8)) 158 v14) 159 (ptr p174 (Nat.add o175 (Nat.mul n178 1)))) 160 v179) 161 (i64 (Int.add (Int.ofNat l29) (Int.ofNat 1)))) 162 (i64 (Int.sub (Int.add (Int.ofNat l29) (Int.ofNat 1)) (Int.ofNat 1)))) 163 (ptr p180 (Nat.add o181 (Nat.mul n184 6)))) 164 (.agg ⟨[v185, v186, v187, v188, v189, v190]⟩)) 165 (ptr p191 (Nat.add o192 (Nat.mul n195 11)))) 166 (ptr p191 (Nat.add (Nat.add o192 (Nat.mul n195 11)) 0))) 167 v137) 48 (a 14)) 49 (i64 (Int.add z217 (Int.ofNat 1)))) 14 (i64 (Int.add z217 (Int.ofNat 1)))) H196))))))))))))))))))))))))))))))))) (
 AsSlc (a 9) fun p218 o219 l220 c221 =>
 AsCnt v14 fun n222 =>
 Must (ltN n222 l220) (
 Ld H p218 (Nat.add o219 (Nat.mul n222 1)) fun v223 =>
 AsSlc (a 11) fun p224 o225 l226 c227 =>
 AsCnt v14 fun n228 =>
 Must (ltN n228 l226) (
 Ld H p224 (Nat.add o225 (Nat.mul n228 1)) fun v229 =>
 Call1 Tryz.prog con 75 [v223, v229] H fun v230 H231 =>
 AsSlc (a 8) fun p232 o233 l234 c235 =>
 AsCnt v14 fun n236 =>
 Must (ltN n236 l234) (
 Ld H231 p232 (Nat.add o233 (Nat.mul n236 1)) fun v237 =>
 InR (Int.sub (Int.ofNat l29) (Int.ofNat 1)) (
 AsSlc (a 9) fun p238 o239 l240 c241 =>
 AsCnt v14 fun n242 =>
 Must (ltN n242 l240) (
 Ld H231 p238 (Nat.add o239 (Nat.mul n242 1)) fun v243 =>
 Call1 Tryz.prog con 76 [v243, v230] H231 fun v244 H245 =>
 AsSlc v237 fun p246 o247 l248 c249 =>
 AsCnt (i64 (Int.sub (Int.ofNat l29) (Int.ofNat 1))) fun n250 =>
 Must (ltN n250 l248) (
 AsAgg v244 fun l251 =>
 Must (eqN (lenF l251) 6) (
 Nth l251 0 fun v252 =>
 Nth l251 1 fun v253 =>
 Nth l251 2 fun v254 =>
 Nth l251 3 fun v255 =>
 Nth l251 4 fun v256 =>
 Nth l251 5 fun v257 =>
 St H245 p246 (Nat.add o247 (Nat.mul n250 6)) [v252, v253, v254, v255, v256, v257] fun H258 =>
 Ld H231 p232 (Nat.add o233 (Nat.mul n236 1)) fun v259 =>
 Same v237 v259 (
 Ld H245 p232 (Nat.add o233 (Nat.mul n236 1)) fun v260 =>
 Same v237 v260 (
 AsSlc (a 10) fun p261 o262 l263 c264 =>
 AsCnt v14 fun n265 =>
 Must (ltN n265 l263) (
 Ld H258 p261 (Nat.add o262 (Nat.mul n265 1)) fun v266 =>
 AsSlc (a 8) fun p267 o268 l269 c270 =>
 AsCnt v14 fun n271 =>
 Must (ltN n271 l269) (
 Ld H258 p267 (Nat.add o268 (Nat.mul n271 1)) fun v272 =>
 InR (Int.sub (Int.ofNat l29) (Int.ofNat 1)) (
 AsSlc v272 fun p273 o274 l275 c276 =>
 AsCnt (i64 (Int.sub (Int.ofNat l29) (Int.ofNat 1))) fun n277 =>
 Must (ltN n277 l275) (
 Ld H258 p273 (Nat.add (Nat.add o274 (Nat.mul n277 6)) 0) fun v278 =>
 Ld H258 p273 (Nat.add (Nat.add o274 (Nat.mul n277 6)) 1) fun v279 =>
 Ld H258 p273 (Nat.add (Nat.add o274 (Nat.mul n277 6)) 2) fun v280 =>
 Ld H258 p273 (Nat.add (Nat.add o274 (Nat.mul n277 6)) 3) fun v281 =>
 Ld H258 p273 (Nat.add (Nat.add o274 (Nat.mul n277 6)) 4) fun v282 =>
 Ld H258 p273 (Nat.add (Nat.add o274 (Nat.mul n277 6)) 5) fun v283 =>
 AsSlc (a 13) fun p284 o285 l286 c287 =>
 AsCnt v266 fun n288 =>
 Must (ltN n288 l286) (
 St H258 p284 (Nat.add (Nat.add o285 (Nat.mul n288 11)) 0) [v278, v279, v280, v281, v282, v283] fun H289 =>
 AsBool v230 fun b290 =>
 Cd b290 (
 AsSlc (a 10) fun p291 o292 l293 c294 =>
 AsCnt v14 fun n295 =>
 Must (ltN n295 l293) (
 Ld H289 p291 (Nat.add o292 (Nat.mul n295 1)) fun v296 =>
 AsSlc (a 13) fun p297 o298 l299 c300 =>
 AsCnt v296 fun n301 =>
 Must (ltN n301 l299) (
 Sc (a 14) (St H289 p297 (Nat.add (Nat.add o298 (Nat.mul n301 11)) 7) [(a 14)] fun H302 =>
 AsSlc (a 9) fun p303 o304 l305 c306 =>
 AsCnt v14 fun n307 =>
 Must (ltN n307 l305) (
 St H302 p303 (Nat.add o304 (Nat.mul n307 1)) [(.pointer none)] fun H308 =>
 AsInt .i64 (a 14) fun z309 =>
 InR (Int.add z309 (Int.ofNat 1)) (
 K .normal (upd (upd (upd (upd (upd (upd (upd (upd (upd (upd (upd (upd (upd (upd (upd (upd (upd (upd (upd (upd (upd (upd (upd (upd (upd (upd (upd (upd (upd (upd (upd (upd (upd (upd (upd (upd (upd (upd (upd (upd (upd (upd (upd (upd (upd (upd (upd (upd (upd (upd (upd (upd (upd (upd (upd (upd (upd (upd (upd (upd (upd (upd (upd (upd (upd (upd (upd (upd (upd (upd (upd (upd (upd (upd (upd (upd (upd (upd (upd (upd (upd (upd (upd (upd (upd (upd (upd (upd (upd a 43 (a 14)) 44 (ptr p1 (Nat.add o2 3))) 45 v3) 46 (iN (l4))) 47 (.bool (ltZ z5 (Int.ofNat l4)))) 50 (ptr p6 (Nat.add o7 3))) 51 v8) 52 (a 14)) 53 (ptr p9 (Nat.add o10 (Nat.mul n13 1)))) 54 v14) 15 v14) 55 v14) 56 (.bool (ltZ z15 (Int.ofNat 0)))) 57 (.bool (ltZ z15 (Int.ofNat 0)))) 57 (.bool false)) 58 v14) 57 (.bool false)) 59 (ptr p17 (Nat.add o18 2))) 57 (.bool false)) 60 v19) 57 (.bool false)) 61 (iN (l20))) 57 (.bool false)) 62 (.bool (leZ (Int.ofNat l20) z21))) 63 (.bool (leZ (Int.ofNat l20) z21))) 64 (a 8)) 65 v14) 66 (ptr p23 (Nat.add o24 (Nat.mul n27 1)))) 67 v28) 68 (iN (l29))) 16 (iN (l29))) 69 (a 9)) 70 v14) 71 (ptr p30 (Nat.add o31 (Nat.mul n34 1)))) 72 v35) 73 (.bool b36)) 130 (a 9)) 131 v14) 132 (ptr p218 (Nat.add o219 (Nat.mul n222 1)))) 133 v223) 134 (a 11)) 135 v14) 136 (ptr p224 (Nat.add o225 (Nat.mul n228 1)))) 137 v229) 138 v230) 17 v230) 139 (a 8)) 140 v14) 141 (ptr p232 (Nat.add o233 (Nat.mul n236 1)))) 142 v237) 143 (iN (l29))) 144 (i64 (Int.sub (Int.ofNat l29) (Int.ofNat 1)))) 145 (a 9)) 146 v14) 147 (ptr p238 (Nat.add o239 (Nat.mul n242 1)))) 148 v243) 149 v230) 150 v244) 151 (ptr p246 (Nat.add o247 (Nat.mul n250 6)))) 152 (a 13)) 153 (a 10)) 154 v14) 155 (ptr p261 (Nat.add o262 (Nat.mul n265 1)))) 156 v266) 157 (a 8)) 158 v14) 159 (ptr p267 (Nat.add o268 (Nat.mul n271 1)))) 160 v272) 161 (iN (l29))) 162 (i64 (Int.sub (Int.ofNat l29) (Int.ofNat 1)))) 163 (ptr p273 (Nat.add o274 (Nat.mul n277 6)))) 164 (.agg ⟨[v278, v279, v280, v281, v282, v283]⟩)) 165 (ptr p284 (Nat.add o285 (Nat.mul n288 11)))) 166 (ptr p284 (Nat.add (Nat.add o285 (Nat.mul n288 11)) 0))) 167 v230) 168 (a 13)) 169 (a 10)) 170 v14) 171 (ptr p291 (Nat.add o292 (Nat.mul n295 1)))) 172 v296) 173 (a 14)) 174 (ptr p297 (Nat.add o298 (Nat.mul n301 11)))) 175 (ptr p297 (Nat.add (Nat.add o298 (Nat.mul n301 11)) 7))) 176 (a 9)) 177 v14) 178 (ptr p303 (Nat.add o304 (Nat.mul n307 1)))) 48 (a 14)) 49 (i64 (Int.add z309 (Int.ofNat 1)))) 14 (i64 (Int.add z309 (Int.ofNat 1)))) H308)))))) (
 AsInt .i64 (a 14) fun z310 =>
 InR (Int.add z310 (Int.ofNat 1)) (
 K .normal (upd (upd (upd (upd (upd (upd (upd (upd (upd (upd (upd (upd (upd (upd (upd (upd (upd (upd (upd (upd (upd (upd (upd (upd (upd (upd (upd (upd (upd (upd (upd (upd (upd (upd (upd (upd (upd (upd (upd (upd (upd (upd (upd (upd (upd (upd (upd (upd (upd (upd (upd (upd (upd (upd (upd (upd (upd (upd (upd (upd (upd (upd (upd (upd (upd (upd (upd (upd (upd (upd (upd (upd (upd (upd (upd (upd (upd (upd a 43 (a 14)) 44 (ptr p1 (Nat.add o2 3))) 45 v3) 46 (iN (l4))) 47 (.bool (ltZ z5 (Int.ofNat l4)))) 50 (ptr p6 (Nat.add o7 3))) 51 v8) 52 (a 14)) 53 (ptr p9 (Nat.add o10 (Nat.mul n13 1)))) 54 v14) 15 v14) 55 v14) 56 (.bool (ltZ z15 (Int.ofNat 0)))) 57 (.bool (ltZ z15 (Int.ofNat 0)))) 57 (.bool false)) 58 v14) 57 (.bool false)) 59 (ptr p17 (Nat.add o18 2))) 57 (.bool false)) 60 v19) 57 (.bool false)) 61 (iN (l20))) 57 (.bool false)) 62 (.bool (leZ (Int.ofNat l20) z21))) 63 (.bool (leZ (Int.ofNat l20) z21))) 64 (a 8)) 65 v14) 66 (ptr p23 (Nat.add o24 (Nat.mul n27 1)))) 67 v28) 68 (iN (l29))) 16 (iN (l29))) 69 (a 9)) 70 v14) 71 (ptr p30 (Nat.add o31 (Nat.mul n34 1)))) 72 v35) 73 (.bool b36)) 130 (a 9)) 131 v14) 132 (ptr p218 (Nat.add o219 (Nat.mul n222 1)))) 133 v223) 134 (a 11)) 135 v14) 136 (ptr p224 (Nat.add o225 (Nat.mul n228 1)))) 137 v229) 138 v230) 17 v230) 139 (a 8)) 140 v14) 141 (ptr p232 (Nat.add o233 (Nat.mul n236 1)))) 142 v237) 143 (iN (l29))) 144 (i64 (Int.sub (Int.ofNat l29) (Int.ofNat 1)))) 145 (a 9)) 146 v14) 147 (ptr p238 (Nat.add o239 (Nat.mul n242 1)))) 148 v243) 149 v230) 150 v244) 151 (ptr p246 (Nat.add o247 (Nat.mul n250 6)))) 152 (a 13)) 153 (a 10)) 154 v14) 155 (ptr p261 (Nat.add o262 (Nat.mul n265 1)))) 156 v266) 157 (a 8)) 158 v14) 159 (ptr p267 (Nat.add o268 (Nat.mul n271 1)))) 160 v272) 161 (iN (l29))) 162 (i64 (Int.sub (Int.ofNat l29) (Int.ofNat 1)))) 163 (ptr p273 (Nat.add o274 (Nat.mul n277 6)))) 164 (.agg ⟨[v278, v279, v280, v281, v282, v283]⟩)) 165 (ptr p284 (Nat.add o285 (Nat.mul n288 11)))) 166 (ptr p284 (Nat.add (Nat.add o285 (Nat.mul n288 11)) 0))) 167 v230) 48 (a 14)) 49 (i64 (Int.add z310 (Int.ofNat 1)))) 14 (i64 (Int.add z310 (Int.ofNat 1)))) H289))))))))))))))))))))))) (
 K (.exit 2) (upd (upd (upd (upd (upd a 43 (a 14)) 44 (ptr p1 (Nat.add o2 3))) 45 v3) 46 (iN (l4))) 47 (.bool (ltZ z5 (Int.ofNat l4)))) H)) := by kernel_rfl
theorem l13right_W (con : CallT) (n : Int) (most : Nat) (v w : Value) (H : CH) (K : KP) : funW Tryz.prog con 16 [.agg ⟨[i64 n, u64 most, v, w]⟩] H K =
 (Nw H (mkRow 26 0 [(i64 n), (u64 (most)), v, w]) fun p1 H2 =>
 Ld H2 p1 0 fun v3 =>
 AsInt .i64 v3 fun z4 =>
 Cd (leZ (Int.ofNat 1) z4) (
 Ld H2 p1 0 fun v5 =>
 AsInt .i64 v5 fun z6 =>
 Cd (leZ z6 (Int.ofNat 256)) (
 Ld H2 p1 1 fun v7 =>
 AsNat .u64 v7 fun n8 =>
 Cd (leN 1 n8) (
 Ld H2 p1 1 fun v9 =>
 AsNat .u64 v9 fun n10 =>
 K (.bool (leN n10 1099511627776)) H2) (
 K (.bool false) H2)) (
 K (.bool false) H2)) (
 K (.bool false) H2)) := by kernel_rfl
end Go.Proofs.YtmjiaahpjjnloaaGreat

/- What some functions' texts ask for, step by step, each checked by the kernel. No conditions. -/
set_option linter.unusedVariables false
set_option maxRecDepth 100000
namespace Go.Proofs.YtmjiaahpjjnloaaGreat
open Go Go.CM
theorem annFew_W (con : CallT) (n : Int) (most : Nat) (v w : Value) (H : CH) (K : KP) : funW Tryz.prog con 5 [.agg ⟨[i64 n, u64 most, v, w]⟩] H K =
 (Nw H (mkRow 26 0 [(i64 n), (u64 (most)), v, w]) fun p1 H2 =>
 Ld H2 p1 0 fun v3 =>
 Ld H2 p1 1 fun v4 =>
 Ld H2 p1 2 fun v5 =>
 Ld H2 p1 3 fun v6 =>
 Call1 Tryz.prog con 14 [(.agg ⟨[v3, v4, v5, v6]⟩)] H2 fun v7 H8 =>
 AsTup v7 fun l9 =>
 Nth l9 0 fun v10 =>
 AsTup v7 fun l11 =>
 Nth l11 1 fun v12 =>
 AsTup v7 fun l13 =>
 Nth l13 2 fun v14 =>
 Nw H8 (mkRow 29 0 [(u64 (0)), (u64 (0)), (iN (0)), (u64 (0))]) fun p15 H16 =>
 AsAgg v12 fun l17 =>
 Must (eqN (lenF l17) 4) (
 Nth l17 0 fun v18 =>
 Nth l17 1 fun v19 =>
 Nth l17 2 fun v20 =>
 Nth l17 3 fun v21 =>
 St H16 p15 0 [v18, v19, v20, v21] fun H22 =>
 Call1 Tryz.prog con 15 [] H22 fun v23 H24 =>
 AsBool v23 fun b25 =>
 Cd (notB b25) (
 K (.bool false) H24) (
 Ld H24 p1 0 fun v26 =>
 Ld H24 p1 1 fun v27 =>
 Ld H24 p1 2 fun v28 =>
 Ld H24 p1 3 fun v29 =>
 Call1 Tryz.prog con 16 [(.agg ⟨[v26, v27, v28, v29]⟩)] H24 fun v30 H31 =>
 AsBool v14 fun b32 =>
 AsBool v30 fun b33 =>
 Cd (notB (eqB b32 b33)) (
 K (.bool false) H31) (
 AsBool v14 fun b34 =>
 Cd (notB b34) (
 K (.bool true) H31) (
 Call1 Tryz.prog con 22 [v10] H31 fun v35 H36 =>
 AsLen v35 fun l37 =>
 Ld H36 p15 0 fun v38 =>
 Ld H36 p15 1 fun v39 =>
 Ld H36 p15 2 fun v40 =>
 Ld H36 p15 3 fun v41 =>
 Ld H36 p1 0 fun v42 =>
 Ld H36 p1 1 fun v43 =>
 Ld H36 p1 2 fun v44 =>
 Ld H36 p1 3 fun v45 =>
 Call1 Tryz.prog con 17 [v10, (.agg ⟨[v38, v39, v40, v41]⟩), (.agg ⟨[v42, v43, v44, v45]⟩)] H36 fun v46 H47 =>
 AsTup v46 fun l48 =>
 Nth l48 0 fun v49 =>
 AsTup v46 fun l50 =>
 Nth l50 1 fun v51 =>
 Call1 Tryz.prog con 22 [v10] H47 fun v52 H53 =>
 Slc Tryz.prog H53 52 v52 (some (iN (l37))) none none fun v54 =>
 LoopC Tryz.prog con (lpAt Tryz.prog 5 0) (upd (upd (upd (upd (upd (upd (upd (upd (upd (upd (upd (upd (upd (upd (upd (upd (upd (upd (upd (upd (upd (upd (upd (upd (upd (upd (upd (upd (upd (upd (upd (upd (upd (upd (upd (upd (upd (upd (upd (upd (upd (upd (upd (upd (upd (fun _ => undV) 0 (.agg ⟨[(i64 n), (u64 (most)), v, w]⟩)) 1 (ptr p1 0)) 2 (.bool false)) 16 (.agg ⟨[v3, v4, v5, v6]⟩)) 17 v7) 15 v7) 18 v10) 19 v12) 20 v14) 4 (ptr p15 0)) 3 v10) 5 v14) 21 v23) 22 (.bool (notB b25))) 23 (.bool (notB b25))) 23 (.bool false)) 24 v14) 23 (.bool false)) 25 (.agg ⟨[v26, v27, v28, v29]⟩)) 23 (.bool false)) 26 v30) 23 (.bool false)) 27 (.bool (notB (eqB b32 b33)))) 28 (.bool (notB (eqB b32 b33)))) 29 v14) 30 (.bool (notB b34))) 31 v10) 32 v35) 33 (iN (l37))) 6 (iN (l37))) 35 v10) 36 (.agg ⟨[v38, v39, v40, v41]⟩)) 37 (.agg ⟨[v42, v43, v44, v45]⟩)) 38 v46) 34 v46) 39 v49) 40 v51) 7 v49) 8 v51) 41 v10) 42 v52) 43 (iN (l37))) 44 v54) 9 v54) 10 (iN (0))) H53 (fun e => ceP e
 (fun a55 H56 =>
 K (.bool true) H56)
 (fun i57 => fun a55 H56 =>
 Cd (eqN i57 0) (
 K (.bool true) H56) (
 False))
 (fun a55 H56 =>
 K (a55 2) H56))))))) := by kernel_rfl
theorem annFewA_W (con : CallT) (a : TF) (H : CH) (K : KX) : codeW (lpAt Tryz.prog 5 0) Tryz.prog con a H K =
 (AsPtr (a 1) fun p1 o2 =>
 Ld H p1 (Nat.add o2 2) fun v3 =>
 AsLen v3 fun l4 =>
 AsInt .i64 (a 10) fun z5 =>
 Cd (ltZ z5 (Int.ofNat l4)) (
 LoopC Tryz.prog con (lpAt Tryz.prog 5 1) (upd (upd (upd (upd (upd (upd (upd (upd a 45 (a 10)) 46 (ptr p1 (Nat.add o2 2))) 47 v3) 48 (iN (l4))) 49 (.bool (ltZ z5 (Int.ofNat l4)))) 11 (iN (0))) 12 (iN (0))) 13 (iN (0))) H (fun e => ceP e
 (fun a6 H7 =>
 LoopC Tryz.prog con (lpAt Tryz.prog 5 2) (upd a6 14 (iN (0))) H7 (fun e => ceP e
 (fun a9 H10 =>
 AsInt .i64 (a9 11) fun z12 =>
 AsInt .i64 (a9 12) fun z13 =>
 Cd (ltZ z13 z12) (
 K .ret (upd (upd (upd (upd a9 103 (a9 11)) 104 (a9 12)) 105 (.bool (ltZ z13 z12))) 2 (.bool false)) H10) (
 AsInt .i64 (a9 10) fun z14 =>
 InR (Int.add z14 (Int.ofNat 1)) (
 K .normal (upd (upd (upd (upd (upd (upd a9 103 (a9 11)) 104 (a9 12)) 105 (.bool (ltZ z13 z12))) 50 (a9 10)) 51 (i64 (Int.add z14 (Int.ofNat 1)))) 10 (i64 (Int.add z14 (Int.ofNat 1)))) H10)))
 (fun i11 => fun a9 H10 =>
 Cd (eqN i11 4) (
 AsInt .i64 (a9 11) fun z15 =>
 AsInt .i64 (a9 12) fun z16 =>
 Cd (ltZ z16 z15) (
 K .ret (upd (upd (upd (upd a9 103 (a9 11)) 104 (a9 12)) 105 (.bool (ltZ z16 z15))) 2 (.bool false)) H10) (
 AsInt .i64 (a9 10) fun z17 =>
 InR (Int.add z17 (Int.ofNat 1)) (
 K .normal (upd (upd (upd (upd (upd (upd a9 103 (a9 11)) 104 (a9 12)) 105 (.bool (ltZ z16 z15))) 50 (a9 10)) 51 (i64 (Int.add z17 (Int.ofNat 1)))) 10 (i64 (Int.add z17 (Int.ofNat 1)))) H10))) (
 Cd (eqN i11 1) (
 AsInt .i64 (a9 10) fun z18 =>
 InR (Int.add z18 (Int.ofNat 1)) (
 K .normal (upd (upd (upd a9 50 (a9 10)) 51 (i64 (Int.add z18 (Int.ofNat 1)))) 10 (i64 (Int.add z18 (Int.ofNat 1)))) H10)) (
 K (.exit i11) a9 H10)))
 (fun a9 H10 =>
 K .ret a9 H10)))
 (fun i8 => fun a6 H7 =>
 Cd (eqN i8 2) (
 LoopC Tryz.prog con (lpAt Tryz.prog 5 2) (upd a6 14 (iN (0))) H7 (fun e => ceP e
 (fun a19 H20 =>
 AsInt .i64 (a19 11) fun z22 =>
 AsInt .i64 (a19 12) fun z23 =>
 Cd (ltZ z23 z22) (
 K .ret (upd (upd (upd (upd a19 103 (a19 11)) 104 (a19 12)) 105 (.bool (ltZ z23 z22))) 2 (.bool false)) H20) (
 AsInt .i64 (a19 10) fun z24 =>
 InR (Int.add z24 (Int.ofNat 1)) (
 K .normal (upd (upd (upd (upd (upd (upd a19 103 (a19 11)) 104 (a19 12)) 105 (.bool (ltZ z23 z22))) 50 (a19 10)) 51 (i64 (Int.add z24 (Int.ofNat 1)))) 10 (i64 (Int.add z24 (Int.ofNat 1)))) H20)))
 (fun i21 => fun a19 H20 =>
 Cd (eqN i21 4) (
 AsInt .i64 (a19 11) fun z25 =>
 AsInt .i64 (a19 12) fun z26 =>
 Cd (ltZ z26 z25) (
 K .ret (upd (upd (upd (upd a19 103 (a19 11)) 104 (a19 12)) 105 (.bool (ltZ z26 z25))) 2 (.bool false)) H20) (
 AsInt .i64 (a19 10) fun z27 =>
 InR (Int.add z27 (Int.ofNat 1)) (
 K .normal (upd (upd (upd (upd (upd (upd a19 103 (a19 11)) 104 (a19 12)) 105 (.bool (ltZ z26 z25))) 50 (a19 10)) 51 (i64 (Int.add z27 (Int.ofNat 1)))) 10 (i64 (Int.add z27 (Int.ofNat 1)))) H20))) (
 Cd (eqN i21 1) (
 AsInt .i64 (a19 10) fun z28 =>
 InR (Int.add z28 (Int.ofNat 1)) (
 K .normal (upd (upd (upd a19 50 (a19 10)) 51 (i64 (Int.add z28 (Int.ofNat 1)))) 10 (i64 (Int.add z28 (Int.ofNat 1)))) H20)) (
 K (.exit i21) a19 H20)))
 (fun a19 H20 =>
 K .ret a19 H20))) (
 Cd (eqN i8 1) (
 AsInt .i64 (a6 10) fun z29 =>
 InR (Int.add z29 (Int.ofNat 1)) (
 K .normal (upd (upd (upd a6 50 (a6 10)) 51 (i64 (Int.add z29 (Int.ofNat 1)))) 10 (i64 (Int.add z29 (Int.ofNat 1)))) H7)) (
 K (.exit i8) a6 H7)))
 (fun a6 H7 =>
 K .ret a6 H7))) (
 K (.exit 0) (upd (upd (upd (upd (upd a 45 (a 10)) 46 (ptr p1 (Nat.add o2 2))) 47 v3) 48 (iN (l4))) 49 (.bool (ltZ z5 (Int.ofNat l4)))) H)) := by kernel_rfl
theorem annFewB_W (con : CallT) (a : TF) (H : CH) (K : KX) : codeW (lpAt Tryz.prog 5 1) Tryz.prog con a H K =
 (AsLen (a 9) fun l1 =>
 AsInt .i64 (a 13) fun z2 =>
 Cd (ltZ z2 (Int.ofNat l1)) (
 AsSlc (a 9) fun p3 o4 l5 c6 =>
 AsCnt (a 13) fun n7 =>
 Must (ltN n7 l5) (
 Ld H p3 (Nat.add (Nat.add o4 (Nat.mul n7 8)) 0) fun v8 =>
 AsInt .i64 v8 fun z9 =>
 AsInt .i64 (a 10) fun z10 =>
 Cd (eqZ z9 z10) (
 AsInt .i64 (a 11) fun z11 =>
 InR (Int.add z11 (Int.ofNat 1)) (
 AsInt .i64 (a 13) fun z12 =>
 InR (Int.add z12 (Int.ofNat 1)) (
 K .normal (upd (upd (upd (upd (upd (upd (upd (upd (upd (upd (upd (upd (upd (upd (upd (upd (upd a 52 (a 13)) 53 (a 9)) 54 (iN (l1))) 55 (.bool (ltZ z2 (Int.ofNat l1)))) 58 (a 9)) 59 (a 13)) 60 (ptr p3 (Nat.add o4 (Nat.mul n7 8)))) 61 (ptr p3 (Nat.add (Nat.add o4 (Nat.mul n7 8)) 0))) 62 v8) 63 (a 10)) 64 (.bool (eqZ z9 z10))) 65 (a 11)) 66 (i64 (Int.add z11 (Int.ofNat 1)))) 11 (i64 (Int.add z11 (Int.ofNat 1)))) 56 (a 13)) 57 (i64 (Int.add z12 (Int.ofNat 1)))) 13 (i64 (Int.add z12 (Int.ofNat 1)))) H))) (
 AsInt .i64 (a 13) fun z13 =>
 InR (Int.add z13 (Int.ofNat 1)) (
 K .normal (upd (upd (upd (upd (upd (upd (upd (upd (upd (upd (upd (upd (upd (upd a 52 (a 13)) 53 (a 9)) 54 (iN (l1))) 55 (.bool (ltZ z2 (Int.ofNat l1)))) 58 (a 9)) 59 (a 13)) 60 (ptr p3 (Nat.add o4 (Nat.mul n7 8)))) 61 (ptr p3 (Nat.add (Nat.add o4 (Nat.mul n7 8)) 0))) 62 v8) 63 (a 10)) 64 (.bool (eqZ z9 z10))) 56 (a 13)) 57 (i64 (Int.add z13 (Int.ofNat 1)))) 13 (i64 (Int.add z13 (Int.ofNat 1)))) H)))) (
 K (.exit 2) (upd (upd (upd (upd a 52 (a 13)) 53 (a 9)) 54 (iN (l1))) 55 (.bool (ltZ z2 (Int.ofNat l1)))) H)) := by kernel_rfl
theorem annFewC_W (con : CallT) (a : TF) (H : CH) (K : KX) : codeW (lpAt Tryz.prog 5 2) Tryz.prog con a H K =
 (AsLen (a 8) fun l1 =>
 AsInt .i64 (a 14) fun z2 =>
 Cd (ltZ z2 (Int.ofNat l1)) (
 AsSlc (a 8) fun p3 o4 l5 c6 =>
 AsCnt (a 14) fun n7 =>
 Must (ltN n7 l5) (
 Ld H p3 (Nat.add (Nat.add o4 (Nat.mul n7 11)) 8) fun v8 =>
 AsInt .i64 v8 fun z9 =>
 AsInt .i64 (a 10) fun z10 =>
 Cd (notB (eqZ z9 z10)) (
 AsInt .i64 (a 14) fun z11 =>
 InR (Int.add z11 (Int.ofNat 1)) (
 K .normal (upd (upd (upd (upd (upd (upd (upd (upd (upd (upd (upd (upd (upd (upd a 67 (a 14)) 68 (a 8)) 69 (iN (l1))) 70 (.bool (ltZ z2 (Int.ofNat l1)))) 73 (a 8)) 74 (a 14)) 75 (ptr p3 (Nat.add o4 (Nat.mul n7 11)))) 76 (ptr p3 (Nat.add (Nat.add o4 (Nat.mul n7 11)) 8))) 77 v8) 78 (a 10)) 79 (.bool (notB (eqZ z9 z10)))) 71 (a 14)) 72 (i64 (Int.add z11 (Int.ofNat 1)))) 14 (i64 (Int.add z11 (Int.ofNat 1)))) H)) (
 AsSlc (a 8) fun p12 o13 l14 c15 =>
 AsCnt (a 14) fun n16 =>
 Must (ltN n16 l14) (
 Ld H p12 (Nat.add (Nat.add (Nat.add o13 (Nat.mul n16 11)) 9) 0) fun v17 =>
 AsInt .i64 v17 fun z18 =>
 Cd (eqZ z18 (Int.ofNat 0)) (
 AsPtr (a 1) fun p19 o20 =>
 Ld H p19 (Nat.add o20 0) fun v21 =>
 AsInt .i64 v21 fun z22 =>
 CInt .mul .i64 (Int.ofNat 2) z22 fun v23 =>
 AsInt .i64 v23 fun z24 =>
 InR (Int.add z24 (Int.ofNat 5)) (
 AsInt .i64 (a 12) fun z25 =>
 InR (Int.add z25 (Int.add z24 (Int.ofNat 5))) (
 AsInt .i64 (a 14) fun z26 =>
 InR (Int.add z26 (Int.ofNat 1)) (
 K .normal (upd (upd (upd (upd (upd (upd (upd (upd (upd (upd (upd (upd (upd (upd (upd (upd (upd (upd (upd (upd (upd (upd (upd (upd (upd (upd (upd (upd (upd a 67 (a 14)) 68 (a 8)) 69 (iN (l1))) 70 (.bool (ltZ z2 (Int.ofNat l1)))) 73 (a 8)) 74 (a 14)) 75 (ptr p3 (Nat.add o4 (Nat.mul n7 11)))) 76 (ptr p3 (Nat.add (Nat.add o4 (Nat.mul n7 11)) 8))) 77 v8) 78 (a 10)) 79 (.bool (notB (eqZ z9 z10)))) 80 (a 8)) 81 (a 14)) 82 (ptr p12 (Nat.add o13 (Nat.mul n16 11)))) 83 (ptr p12 (Nat.add (Nat.add o13 (Nat.mul n16 11)) 9))) 84 (ptr p12 (Nat.add (Nat.add (Nat.add o13 (Nat.mul n16 11)) 9) 0))) 85 v17) 89 (.bool (eqZ z18 (Int.ofNat 0)))) 88 (.bool (eqZ z18 (Int.ofNat 0)))) 90 (a 12)) 91 (ptr p19 (Nat.add o20 0))) 92 v21) 93 v23) 94 (i64 (Int.add z24 (Int.ofNat 5)))) 95 (i64 (Int.add z25 (Int.add z24 (Int.ofNat 5))))) 12 (i64 (Int.add z25 (Int.add z24 (Int.ofNat 5))))) 71 (a 14)) 72 (i64 (Int.add z26 (Int.ofNat 1)))) 14 (i64 (Int.add z26 (Int.ofNat 1)))) H)))) (
 AsInt .i64 v17 fun z27 =>
 Cd (eqZ z27 (Int.ofNat 2)) (
 AsPtr (a 1) fun p28 o29 =>
 Ld H p28 (Nat.add o29 0) fun v30 =>
 AsInt .i64 v30 fun z31 =>
 InR (Int.add z31 (Int.ofNat 1)) (
 AsInt .i64 (a 12) fun z32 =>
 InR (Int.add z32 (Int.add z31 (Int.ofNat 1))) (
 AsInt .i64 (a 14) fun z33 =>
 InR (Int.add z33 (Int.ofNat 1)) (
 K .normal (upd (upd (upd (upd (upd (upd (upd (upd (upd (upd (upd (upd (upd (upd (upd (upd (upd (upd (upd (upd (upd (upd (upd (upd (upd (upd (upd (upd (upd (upd a 67 (a 14)) 68 (a 8)) 69 (iN (l1))) 70 (.bool (ltZ z2 (Int.ofNat l1)))) 73 (a 8)) 74 (a 14)) 75 (ptr p3 (Nat.add o4 (Nat.mul n7 11)))) 76 (ptr p3 (Nat.add (Nat.add o4 (Nat.mul n7 11)) 8))) 77 v8) 78 (a 10)) 79 (.bool (notB (eqZ z9 z10)))) 80 (a 8)) 81 (a 14)) 82 (ptr p12 (Nat.add o13 (Nat.mul n16 11)))) 83 (ptr p12 (Nat.add (Nat.add o13 (Nat.mul n16 11)) 9))) 84 (ptr p12 (Nat.add (Nat.add (Nat.add o13 (Nat.mul n16 11)) 9) 0))) 85 v17) 89 (.bool (eqZ z18 (Int.ofNat 0)))) 88 (.bool (eqZ z18 (Int.ofNat 0)))) 97 (.bool (eqZ z27 (Int.ofNat 2)))) 96 (.bool (eqZ z27 (Int.ofNat 2)))) 98 (a 12)) 99 (ptr p28 (Nat.add o29 0))) 100 v30) 101 (i64 (Int.add z31 (Int.ofNat 1)))) 102 (i64 (Int.add z32 (Int.add z31 (Int.ofNat 1))))) 12 (i64 (Int.add z32 (Int.add z31 (Int.ofNat 1))))) 71 (a 14)) 72 (i64 (Int.add z33 (Int.ofNat 1)))) 14 (i64 (Int.add z33 (Int.ofNat 1)))) H)))) (
 AsInt .i64 (a 12) fun z34 =>
 InR (Int.add z34 (Int.ofNat 2)) (
 AsInt .i64 (a 14) fun z35 =>
 InR (Int.add z35 (Int.ofNat 1)) (
 K .normal (upd (upd (upd (upd (upd (upd (upd (upd (upd (upd (upd (upd (upd (upd (upd (upd (upd (upd (upd (upd (upd (upd (upd (upd (upd (upd (upd a 67 (a 14)) 68 (a 8)) 69 (iN (l1))) 70 (.bool (ltZ z2 (Int.ofNat l1)))) 73 (a 8)) 74 (a 14)) 75 (ptr p3 (Nat.add o4 (Nat.mul n7 11)))) 76 (ptr p3 (Nat.add (Nat.add o4 (Nat.mul n7 11)) 8))) 77 v8) 78 (a 10)) 79 (.bool (notB (eqZ z9 z10)))) 80 (a 8)) 81 (a 14)) 82 (ptr p12 (Nat.add o13 (Nat.mul n16 11)))) 83 (ptr p12 (Nat.add (Nat.add o13 (Nat.mul n16 11)) 9))) 84 (ptr p12 (Nat.add (Nat.add (Nat.add o13 (Nat.mul n16 11)) 9) 0))) 85 v17) 89 (.bool (eqZ z18 (Int.ofNat 0)))) 88 (.bool (eqZ z18 (Int.ofNat 0)))) 97 (.bool (eqZ z27 (Int.ofNat 2)))) 96 (.bool (eqZ z27 (Int.ofNat 2)))) 86 (a 12)) 87 (i64 (Int.add z34 (Int.ofNat 2)))) 12 (i64 (Int.add z34 (Int.ofNat 2)))) 71 (a 14)) 72 (i64 (Int.add z35 (Int.ofNat 1)))) 14 (i64 (Int.add z35 (Int.ofNat 1)))) H)))))))) (
 K (.exit 4) (upd (upd (upd (upd a 67 (a 14)) 68 (a 8)) 69 (iN (l1))) 70 (.bool (ltZ z2 (Int.ofNat l1)))) H)) := by kernel_rfl
end Go.Proofs.YtmjiaahpjjnloaaGreat

