/- The tables of this program, and what its functions without a text answer. -/
import Derived.Test.YtcanjngalglfiaaGreatDoorAeD
import Derived.Test.YtcanjngalglfiaaGreatDoorChecked
import Derived.Lib.Builder
import Derived.Laws.Externs
import Derived.ProofKit
import Derived.ChangeAlike
import Derived.Tactics
import Derived.Tactics2
import Derived.Defers
import Derived.Laws.Pointers
import Derived.Laws.LoneSync
import Derived.RegionTactic
import Derived.RegionCalls
section
/- The tables of the seat. -/
set_option maxRecDepth 100000
namespace Go.AE
open Go.Proofs
noncomputable def TNfn : BT Func := (.node (.node (.node (.node (.node (.node (.node (.node (.node .leaf 3 Tryz.f3 .leaf) 4 Tryz.f4 .leaf) 5 Tryz.f5 (.node (.node .leaf 6 Tryz.f6 .leaf) 7 Tryz.f7 .leaf)) 8 Tryz.f8 (.node (.node (.node .leaf 9 Tryz.f9 .leaf) 10 Tryz.f10 .leaf) 11 Tryz.f11 (.node .leaf 12 Tryz.f12 .leaf))) 13 Tryz.f13 (.node (.node (.node (.node .leaf 14 Tryz.f14 .leaf) 15 Tryz.f15 .leaf) 16 Tryz.f16 (.node .leaf 17 Tryz.f17 .leaf)) 18 Tryz.f18 (.node (.node (.node .leaf 19 Tryz.f19 .leaf) 20 Tryz.f20 .leaf) 21 Tryz.f21 (.node .leaf 22 Tryz.f22 .leaf)))) 23 Tryz.f23 (.node (.node (.node (.node (.node .leaf 24 Tryz.f24 .leaf) 25 Tryz.f25 .leaf) 26 Tryz.f26 (.node (.node .leaf 27 Tryz.f27 .leaf) 28 Tryz.f28 .leaf)) 29 Tryz.f29 (.node (.node (.node .leaf 30 Tryz.f30 .leaf) 31 Tryz.f31 .leaf) 32 Tryz.f32 (.node .leaf 33 Tryz.f33 .leaf))) 34 Tryz.f34 (.node (.node (.node (.node .leaf 35 Tryz.f35 .leaf) 36 Tryz.f36 .leaf) 37 Tryz.f37 (.node .leaf 38 Tryz.f38 .leaf)) 39 Tryz.f39 (.node (.node (.node .leaf 40 Tryz.f40 .leaf) 41 Tryz.f41 .leaf) 42 Tryz.f42 (.node .leaf 43 Tryz.f43 .leaf))))) 44 Tryz.f44 (.node (.node (.node (.node (.node (.node .leaf 45 Tryz.f45 .leaf) 46 Tryz.f46 .leaf) 47 Tryz.f47 (.node (.node .leaf 48 Tryz.f48 .leaf) 49 Tryz.f49 .leaf)) 50 Tryz.f50 (.node (.node (.node .leaf 51 Tryz.f51 .leaf) 52 Tryz.f52 .leaf) 53 Tryz.f53 (.node .leaf 54 Tryz.f54 .leaf))) 55 Tryz.f55 (.node (.node (.node (.node .leaf 56 Tryz.f56 .leaf) 57 Tryz.f57 .leaf) 58 Tryz.f58 (.node .leaf 59 Tryz.f59 .leaf)) 60 Tryz.f60 (.node (.node (.node .leaf 61 Tryz.f61 .leaf) 62 Tryz.f62 .leaf) 63 Tryz.f63 (.node .leaf 64 Tryz.f64 .leaf)))) 65 Tryz.f65 (.node (.node (.node (.node (.node .leaf 66 Tryz.f66 .leaf) 67 Tryz.f67 .leaf) 68 Tryz.f68 (.node (.node .leaf 69 Tryz.f69 .leaf) 70 Tryz.f70 .leaf)) 71 Tryz.f71 (.node (.node (.node .leaf 72 Tryz.f72 .leaf) 73 Tryz.f73 .leaf) 74 Tryz.f74 (.node .leaf 75 Tryz.f75 .leaf))) 76 Tryz.f76 (.node (.node (.node (.node .leaf 77 Tryz.f77 .leaf) 78 Tryz.f78 .leaf) 79 Tryz.f79 (.node .leaf 81 Tryz.f81 .leaf)) 83 Tryz.f83 (.node (.node (.node .leaf 84 Tryz.f84 .leaf) 85 Tryz.f85 .leaf) 86 Tryz.f86 (.node .leaf 87 Tryz.f87 .leaf)))))) 88 Tryz.f88 (.node (.node (.node (.node (.node (.node (.node .leaf 89 Tryz.f89 .leaf) 90 Tryz.f90 .leaf) 91 Tryz.f91 (.node (.node .leaf 92 Tryz.f92 .leaf) 93 Tryz.f93 .leaf)) 94 Tryz.f94 (.node (.node (.node .leaf 95 Tryz.f95 .leaf) 96 Tryz.f96 .leaf) 97 Tryz.f97 (.node .leaf 98 Tryz.f98 .leaf))) 99 Tryz.f99 (.node (.node (.node (.node .leaf 100 Tryz.f100 .leaf) 101 Tryz.f101 .leaf) 102 Tryz.f102 (.node .leaf 103 Tryz.f103 .leaf)) 104 Tryz.f104 (.node (.node (.node .leaf 105 Tryz.f105 .leaf) 106 Tryz.f106 .leaf) 107 Tryz.f107 (.node .leaf 108 Tryz.f108 .leaf)))) 109 Tryz.f109 (.node (.node (.node (.node (.node .leaf 110 Tryz.f110 .leaf) 111 Tryz.f111 .leaf) 112 Tryz.f112 (.node (.node .leaf 113 Tryz.f113 .leaf) 114 Tryz.f114 .leaf)) 115 Tryz.f115 (.node (.node (.node .leaf 116 Tryz.f116 .leaf) 117 Tryz.f117 .leaf) 118 Tryz.f118 (.node .leaf 119 Tryz.f119 .leaf))) 120 Tryz.f120 (.node (.node (.node (.node .leaf 121 Tryz.f121 .leaf) 122 Tryz.f122 .leaf) 123 Tryz.f123 (.node .leaf 124 Tryz.f124 .leaf)) 125 Tryz.f125 (.node (.node (.node .leaf 126 Tryz.f126 .leaf) 127 Tryz.f127 .leaf) 128 Tryz.f128 (.node .leaf 129 Tryz.f129 .leaf))))) 130 Tryz.f130 (.node (.node (.node (.node (.node (.node .leaf 131 Tryz.f131 .leaf) 132 Tryz.f132 .leaf) 133 Tryz.f133 (.node (.node .leaf 134 Tryz.f134 .leaf) 135 Tryz.f135 .leaf)) 136 Tryz.f136 (.node (.node (.node .leaf 137 Tryz.f137 .leaf) 138 Tryz.f138 .leaf) 139 Tryz.f139 (.node .leaf 140 Tryz.f140 .leaf))) 141 Tryz.f141 (.node (.node (.node (.node .leaf 142 Tryz.f142 .leaf) 143 Tryz.f143 .leaf) 145 Tryz.f145 (.node .leaf 146 Tryz.f146 .leaf)) 147 Tryz.f147 (.node (.node (.node .leaf 149 Tryz.f149 .leaf) 150 Tryz.f150 .leaf) 151 Tryz.f151 (.node .leaf 152 Tryz.f152 .leaf)))) 153 Tryz.f153 (.node (.node (.node (.node (.node .leaf 154 Tryz.f154 .leaf) 155 Tryz.f155 .leaf) 156 Tryz.f156 (.node .leaf 157 Tryz.f157 .leaf)) 158 Tryz.f158 (.node (.node (.node .leaf 159 Tryz.f159 .leaf) 160 Tryz.f160 .leaf) 161 Tryz.f161 (.node .leaf 162 Tryz.f162 .leaf))) 163 Tryz.f163 (.node (.node (.node (.node .leaf 164 Tryz.f164 .leaf) 165 Tryz.f165 .leaf) 166 Tryz.f166 (.node .leaf 167 Tryz.f167 .leaf)) 168 Tryz.f168 (.node (.node (.node .leaf 169 Tryz.f169 .leaf) 170 Tryz.f170 .leaf) 172 Tryz.f172 (.node .leaf 173 Tryz.f173 .leaf))))))) 174 Tryz.f174 (.node (.node (.node (.node (.node (.node (.node (.node .leaf 175 Tryz.f175 .leaf) 176 Tryz.f176 .leaf) 177 Tryz.f177 (.node (.node .leaf 178 Tryz.f178 .leaf) 179 Tryz.f179 .leaf)) 180 Tryz.f180 (.node (.node (.node .leaf 181 Tryz.f181 .leaf) 182 Tryz.f182 .leaf) 183 Tryz.f183 (.node .leaf 184 Tryz.f184 .leaf))) 185 Tryz.f185 (.node (.node (.node (.node .leaf 186 Tryz.f186 .leaf) 187 Tryz.f187 .leaf) 188 Tryz.f188 (.node .leaf 189 Tryz.f189 .leaf)) 190 Tryz.f190 (.node (.node (.node .leaf 191 Tryz.f191 .leaf) 192 Tryz.f192 .leaf) 193 Tryz.f193 (.node .leaf 194 Tryz.f194 .leaf)))) 195 Tryz.f195 (.node (.node (.node (.node (.node .leaf 196 Tryz.f196 .leaf) 197 Tryz.f197 .leaf) 198 Tryz.f198 (.node (.node .leaf 199 Tryz.f199 .leaf) 200 Tryz.f200 .leaf)) 201 Tryz.f201 (.node (.node (.node .leaf 202 Tryz.f202 .leaf) 203 Tryz.f203 .leaf) 205 Tryz.f205 (.node .leaf 206 Tryz.f206 .leaf))) 207 Tryz.f207 (.node (.node (.node (.node .leaf 208 Tryz.f208 .leaf) 209 Tryz.f209 .leaf) 210 Tryz.f210 (.node .leaf 211 Tryz.f211 .leaf)) 212 Tryz.f212 (.node (.node (.node .leaf 213 Tryz.f213 .leaf) 214 Tryz.f214 .leaf) 215 Tryz.f215 (.node .leaf 216 Tryz.f216 .leaf))))) 217 Tryz.f217 (.node (.node (.node (.node (.node (.node .leaf 218 Tryz.f218 .leaf) 219 Tryz.f219 .leaf) 220 Tryz.f220 (.node (.node .leaf 221 Tryz.f221 .leaf) 222 Tryz.f222 .leaf)) 223 Tryz.f223 (.node (.node (.node .leaf 224 Tryz.f224 .leaf) 225 Tryz.f225 .leaf) 226 Tryz.f226 (.node .leaf 227 Tryz.f227 .leaf))) 228 Tryz.f228 (.node (.node (.node (.node .leaf 229 Tryz.f229 .leaf) 230 Tryz.f230 .leaf) 231 Tryz.f231 (.node .leaf 232 Tryz.f232 .leaf)) 233 Tryz.f233 (.node (.node (.node .leaf 234 Tryz.f234 .leaf) 235 Tryz.f235 .leaf) 236 Tryz.f236 (.node .leaf 237 Tryz.f237 .leaf)))) 238 Tryz.f238 (.node (.node (.node (.node (.node .leaf 239 Tryz.f239 .leaf) 240 Tryz.f240 .leaf) 241 Tryz.f241 (.node .leaf 242 Tryz.f242 .leaf)) 243 Tryz.f243 (.node (.node (.node .leaf 244 Tryz.f244 .leaf) 245 Tryz.f245 .leaf) 246 Tryz.f246 (.node .leaf 247 Tryz.f247 .leaf))) 248 Tryz.f248 (.node (.node (.node (.node .leaf 249 Tryz.f249 .leaf) 250 Tryz.f250 .leaf) 251 Tryz.f251 (.node .leaf 252 Tryz.f252 .leaf)) 253 Tryz.f253 (.node (.node (.node .leaf 255 Tryz.f255 .leaf) 256 Tryz.f256 .leaf) 257 Tryz.f257 (.node .leaf 258 Tryz.f258 .leaf)))))) 259 Tryz.f259 (.node (.node (.node (.node (.node (.node (.node .leaf 260 Tryz.f260 .leaf) 261 Tryz.f261 .leaf) 262 Tryz.f262 (.node (.node .leaf 263 Tryz.f263 .leaf) 264 Tryz.f264 .leaf)) 265 Tryz.f265 (.node (.node (.node .leaf 266 Tryz.f266 .leaf) 267 Tryz.f267 .leaf) 268 Tryz.f268 (.node .leaf 269 Tryz.f269 .leaf))) 270 Tryz.f270 (.node (.node (.node (.node .leaf 271 Tryz.f271 .leaf) 272 Tryz.f272 .leaf) 273 Tryz.f273 (.node .leaf 274 Tryz.f274 .leaf)) 275 Tryz.f275 (.node (.node (.node .leaf 276 Tryz.f276 .leaf) 277 Tryz.f277 .leaf) 278 Tryz.f278 (.node .leaf 279 Tryz.f279 .leaf)))) 280 Tryz.f280 (.node (.node (.node (.node (.node .leaf 281 Tryz.f281 .leaf) 282 Tryz.f282 .leaf) 283 Tryz.f283 (.node (.node .leaf 284 Tryz.f284 .leaf) 285 Tryz.f285 .leaf)) 286 Tryz.f286 (.node (.node (.node .leaf 287 Tryz.f287 .leaf) 288 Tryz.f288 .leaf) 289 Tryz.f289 (.node .leaf 290 Tryz.f290 .leaf))) 291 Tryz.f291 (.node (.node (.node (.node .leaf 293 Tryz.f293 .leaf) 294 Tryz.f294 .leaf) 295 Tryz.f295 (.node .leaf 296 Tryz.f296 .leaf)) 297 Tryz.f297 (.node (.node (.node .leaf 298 Tryz.f298 .leaf) 299 Tryz.f299 .leaf) 300 Tryz.f300 (.node .leaf 301 Tryz.f301 .leaf))))) 302 Tryz.f302 (.node (.node (.node (.node (.node (.node .leaf 303 Tryz.f303 .leaf) 304 Tryz.f304 .leaf) 305 Tryz.f305 (.node (.node .leaf 306 Tryz.f306 .leaf) 307 Tryz.f307 .leaf)) 308 Tryz.f308 (.node (.node (.node .leaf 309 Tryz.f309 .leaf) 310 Tryz.f310 .leaf) 311 Tryz.f311 (.node .leaf 312 Tryz.f312 .leaf))) 313 Tryz.f313 (.node (.node (.node (.node .leaf 314 Tryz.f314 .leaf) 315 Tryz.f315 .leaf) 316 Tryz.f316 (.node .leaf 317 Tryz.f317 .leaf)) 318 Tryz.f318 (.node (.node (.node .leaf 319 Tryz.f319 .leaf) 320 Tryz.f320 .leaf) 325 Tryz.f325 (.node .leaf 328 Tryz.f328 .leaf)))) 329 Tryz.f329 (.node (.node (.node (.node (.node .leaf 330 Tryz.f330 .leaf) 331 Tryz.f331 .leaf) 333 Tryz.f333 (.node .leaf 334 Tryz.f334 .leaf)) 335 Tryz.f335 (.node (.node (.node .leaf 336 Tryz.f336 .leaf) 337 Tryz.f337 .leaf) 338 Tryz.f338 (.node .leaf 339 Tryz.f339 .leaf))) 340 Tryz.f340 (.node (.node (.node (.node .leaf 341 Tryz.f341 .leaf) 342 Tryz.f342 .leaf) 343 Tryz.f343 (.node .leaf 351 Tryz.f351 .leaf)) 353 Tryz.f353 (.node (.node (.node .leaf 354 Tryz.f354 .leaf) 355 Tryz.f355 .leaf) 356 Tryz.f356 (.node .leaf 385 Tryz.f385 .leaf))))))))
noncomputable def TNty : BT TI := (.node (.node (.node (.node (.node (.node (.node .leaf 1 (TI.of Tryz.t1.desc Tryz.t1) .leaf) 2 (TI.of Tryz.t2.desc Tryz.t2) (.node .leaf 3 (TI.of Tryz.t3.desc Tryz.t3) .leaf)) 4 (TI.of Tryz.t4.desc Tryz.t4) (.node (.node .leaf 5 (TI.of Tryz.t5.desc Tryz.t5) .leaf) 9 (TI.of Tryz.t9.desc Tryz.t9) (.node .leaf 21 (TI.of Tryz.t21.desc Tryz.t21) .leaf))) 23 (TI.of Tryz.t22.desc Tryz.t23) (.node (.node (.node .leaf 24 (TI.of Tryz.t24.desc Tryz.t24) .leaf) 26 (TI.of Tryz.t25.desc Tryz.t26) (.node .leaf 28 (TI.of Tryz.t27.desc Tryz.t28) .leaf)) 30 (TI.of Tryz.t30.desc Tryz.t30) (.node (.node .leaf 31 (TI.of Tryz.t31.desc Tryz.t31) .leaf) 33 (TI.of Tryz.t32.desc Tryz.t33) .leaf))) 35 (TI.of Tryz.t35.desc Tryz.t35) (.node (.node (.node (.node .leaf 37 (TI.of Tryz.t37.desc Tryz.t37) .leaf) 38 (TI.of Tryz.t38.desc Tryz.t38) (.node .leaf 40 (TI.of Tryz.t39.desc Tryz.t40) .leaf)) 42 (TI.of Tryz.t41.desc Tryz.t42) (.node (.node .leaf 43 (TI.of Tryz.t43.desc Tryz.t43) .leaf) 44 (TI.of Tryz.t44.desc Tryz.t44) .leaf)) 49 (TI.of Tryz.t3.desc Tryz.t49) (.node (.node (.node .leaf 55 (TI.of Tryz.t54.desc Tryz.t55) .leaf) 57 (TI.of Tryz.t56.desc Tryz.t57) (.node .leaf 65 (TI.of Tryz.t64.desc Tryz.t65) .leaf)) 66 (TI.of Tryz.t66.desc Tryz.t66) (.node (.node .leaf 67 (TI.of Tryz.t66.desc Tryz.t67) .leaf) 77 (TI.of Tryz.t77.desc Tryz.t77) .leaf)))) 78 (TI.of Tryz.t78.desc Tryz.t78) (.node (.node (.node (.node (.node .leaf 82 (TI.of Tryz.t81.desc Tryz.t82) .leaf) 91 (TI.of Tryz.t91.desc Tryz.t91) (.node .leaf 100 (TI.of Tryz.t100.desc Tryz.t100) .leaf)) 102 (TI.of Tryz.t101.desc Tryz.t102) (.node (.node .leaf 105 (TI.of Tryz.t105.desc Tryz.t105) .leaf) 110 (TI.of Tryz.t110.desc Tryz.t110) (.node .leaf 113 (TI.of Tryz.t113.desc Tryz.t113) .leaf))) 121 (TI.of Tryz.t121.desc Tryz.t121) (.node (.node (.node .leaf 131 (TI.of Tryz.t131.desc Tryz.t131) .leaf) 132 (TI.of Tryz.t132.desc Tryz.t132) (.node .leaf 134 (TI.of Tryz.t133.desc Tryz.t134) .leaf)) 140 (TI.of Tryz.t139.desc Tryz.t140) (.node (.node .leaf 153 (TI.of Tryz.t153.desc Tryz.t153) .leaf) 156 (TI.of Tryz.t156.desc Tryz.t156) .leaf))) 158 (TI.of Tryz.t158.desc Tryz.t158) (.node (.node (.node (.node .leaf 161 (TI.of Tryz.t160.desc Tryz.t161) .leaf) 168 (TI.of Tryz.t168.desc Tryz.t168) (.node .leaf 170 (TI.of Tryz.t170.desc Tryz.t170) .leaf)) 174 (TI.of Tryz.t174.desc Tryz.t174) (.node (.node .leaf 175 (TI.of Tryz.t175.desc Tryz.t175) .leaf) 176 (TI.of Tryz.t176.desc Tryz.t176) .leaf)) 188 (TI.of Tryz.t188.desc Tryz.t188) (.node (.node (.node .leaf 191 (TI.of Tryz.t191.desc Tryz.t191) .leaf) 201 (TI.of Tryz.t201.desc Tryz.t201) (.node .leaf 210 (TI.of Tryz.t210.desc Tryz.t210) .leaf)) 212 (TI.of Tryz.t211.desc Tryz.t212) (.node (.node .leaf 214 (TI.of Tryz.t214.desc Tryz.t214) .leaf) 218 (TI.of Tryz.t218.desc Tryz.t218) .leaf))))) 220 (TI.of Tryz.t219.desc Tryz.t220) (.node (.node (.node (.node (.node (.node .leaf 221 (TI.of Tryz.t219.desc Tryz.t221) .leaf) 222 (TI.of Tryz.t222.desc Tryz.t222) (.node .leaf 224 (TI.of Tryz.t223.desc Tryz.t224) .leaf)) 226 (TI.of Tryz.t225.desc Tryz.t226) (.node (.node .leaf 228 (TI.of Tryz.t227.desc Tryz.t228) .leaf) 230 (TI.of Tryz.t229.desc Tryz.t230) (.node .leaf 232 (TI.of Tryz.t231.desc Tryz.t232) .leaf))) 234 (TI.of Tryz.t233.desc Tryz.t234) (.node (.node (.node .leaf 238 (TI.of Tryz.t238.desc Tryz.t238) .leaf) 256 (TI.of Tryz.t256.desc Tryz.t256) (.node .leaf 262 (TI.of Tryz.t262.desc Tryz.t262) .leaf)) 268 (TI.of Tryz.t3.desc Tryz.t268) (.node (.node .leaf 276 (TI.of Tryz.t276.desc Tryz.t276) .leaf) 282 (TI.of Tryz.t282.desc Tryz.t282) .leaf))) 284 (TI.of Tryz.t284.desc Tryz.t284) (.node (.node (.node (.node .leaf 287 (TI.of Tryz.t287.desc Tryz.t287) .leaf) 289 (TI.of Tryz.t3.desc Tryz.t289) (.node .leaf 292 (TI.of Tryz.t292.desc Tryz.t292) .leaf)) 296 (TI.of Tryz.t296.desc Tryz.t296) (.node (.node .leaf 306 (TI.of Tryz.t306.desc Tryz.t306) .leaf) 308 (TI.of Tryz.t308.desc Tryz.t308) .leaf)) 310 (TI.of Tryz.t310.desc Tryz.t310) (.node (.node (.node .leaf 312 (TI.of Tryz.t312.desc Tryz.t312) .leaf) 314 (TI.of Tryz.t314.desc Tryz.t314) (.node .leaf 315 (TI.of Tryz.t314.desc Tryz.t315) .leaf)) 316 (TI.of Tryz.t316.desc Tryz.t316) (.node (.node .leaf 317 (TI.of Tryz.t317.desc Tryz.t317) .leaf) 319 (TI.of Tryz.t318.desc Tryz.t319) .leaf)))) 320 (TI.of Tryz.t320.desc Tryz.t320) (.node (.node (.node (.node (.node .leaf 323 (TI.of Tryz.t276.desc Tryz.t323) .leaf) 327 (TI.of Tryz.t327.desc Tryz.t327) (.node .leaf 339 (TI.of Tryz.t338.desc Tryz.t339) .leaf)) 342 (TI.of Tryz.t342.desc Tryz.t342) (.node (.node .leaf 343 (TI.of Tryz.t343.desc Tryz.t343) .leaf) 345 (TI.of Tryz.t345.desc Tryz.t345) .leaf)) 348 (TI.of Tryz.t348.desc Tryz.t348) (.node (.node (.node .leaf 351 (TI.of Tryz.t350.desc Tryz.t351) .leaf) 352 (TI.of Tryz.t352.desc Tryz.t352) (.node .leaf 353 (TI.of Tryz.t353.desc Tryz.t353) .leaf)) 355 (TI.of Tryz.t354.desc Tryz.t355) (.node (.node .leaf 357 (TI.of Tryz.t356.desc Tryz.t357) .leaf) 360 (TI.of Tryz.t360.desc Tryz.t360) .leaf))) 368 (TI.of Tryz.t368.desc Tryz.t368) (.node (.node (.node (.node .leaf 370 (TI.of Tryz.t369.desc Tryz.t370) .leaf) 371 (TI.of Tryz.t371.desc Tryz.t371) (.node .leaf 373 (TI.of Tryz.t373.desc Tryz.t373) .leaf)) 377 (TI.of Tryz.t377.desc Tryz.t377) (.node (.node .leaf 379 (TI.of Tryz.t378.desc Tryz.t379) .leaf) 383 (TI.of Tryz.t383.desc Tryz.t383) .leaf)) 388 (TI.of Tryz.t388.desc Tryz.t388) (.node (.node (.node .leaf 389 (TI.of Tryz.t389.desc Tryz.t389) .leaf) 392 (TI.of Tryz.t391.desc Tryz.t392) (.node .leaf 395 (TI.of Tryz.t395.desc Tryz.t395) .leaf)) 396 (TI.of Tryz.t396.desc Tryz.t396) (.node (.node .leaf 401 (TI.of Tryz.t400.desc Tryz.t401) .leaf) 402 (TI.of Tryz.t402.desc Tryz.t402) .leaf))))))
theorem TNfn_ok : TNfn.All (fun k f => Tryz.prog.funcs[k]? = some f ∧ (f.name == "runtime.NumGoroutine") = false) := ⟨⟨⟨⟨⟨⟨⟨⟨⟨trivial, ⟨Tryz.func3, rfl⟩, trivial⟩, ⟨Tryz.func4, rfl⟩, trivial⟩, ⟨Tryz.func5, rfl⟩, ⟨⟨trivial, ⟨Tryz.func6, rfl⟩, trivial⟩, ⟨Tryz.func7, rfl⟩, trivial⟩⟩, ⟨Tryz.func8, rfl⟩, ⟨⟨⟨trivial, ⟨Tryz.func9, rfl⟩, trivial⟩, ⟨Tryz.func10, rfl⟩, trivial⟩, ⟨Tryz.func11, rfl⟩, ⟨trivial, ⟨Tryz.func12, rfl⟩, trivial⟩⟩⟩, ⟨Tryz.func13, rfl⟩, ⟨⟨⟨⟨trivial, ⟨Tryz.func14, rfl⟩, trivial⟩, ⟨Tryz.func15, rfl⟩, trivial⟩, ⟨Tryz.func16, rfl⟩, ⟨trivial, ⟨Tryz.func17, rfl⟩, trivial⟩⟩, ⟨Tryz.func18, rfl⟩, ⟨⟨⟨trivial, ⟨Tryz.func19, rfl⟩, trivial⟩, ⟨Tryz.func20, rfl⟩, trivial⟩, ⟨Tryz.func21, rfl⟩, ⟨trivial, ⟨Tryz.func22, rfl⟩, trivial⟩⟩⟩⟩, ⟨Tryz.func23, rfl⟩, ⟨⟨⟨⟨⟨trivial, ⟨Tryz.func24, rfl⟩, trivial⟩, ⟨Tryz.func25, rfl⟩, trivial⟩, ⟨Tryz.func26, rfl⟩, ⟨⟨trivial, ⟨Tryz.func27, rfl⟩, trivial⟩, ⟨Tryz.func28, rfl⟩, trivial⟩⟩, ⟨Tryz.func29, rfl⟩, ⟨⟨⟨trivial, ⟨Tryz.func30, rfl⟩, trivial⟩, ⟨Tryz.func31, rfl⟩, trivial⟩, ⟨Tryz.func32, rfl⟩, ⟨trivial, ⟨Tryz.func33, rfl⟩, trivial⟩⟩⟩, ⟨Tryz.func34, rfl⟩, ⟨⟨⟨⟨trivial, ⟨Tryz.func35, rfl⟩, trivial⟩, ⟨Tryz.func36, rfl⟩, trivial⟩, ⟨Tryz.func37, rfl⟩, ⟨trivial, ⟨Tryz.func38, rfl⟩, trivial⟩⟩, ⟨Tryz.func39, rfl⟩, ⟨⟨⟨trivial, ⟨Tryz.func40, rfl⟩, trivial⟩, ⟨Tryz.func41, rfl⟩, trivial⟩, ⟨Tryz.func42, rfl⟩, ⟨trivial, ⟨Tryz.func43, rfl⟩, trivial⟩⟩⟩⟩⟩, ⟨Tryz.func44, rfl⟩, ⟨⟨⟨⟨⟨⟨trivial, ⟨Tryz.func45, rfl⟩, trivial⟩, ⟨Tryz.func46, rfl⟩, trivial⟩, ⟨Tryz.func47, rfl⟩, ⟨⟨trivial, ⟨Tryz.func48, rfl⟩, trivial⟩, ⟨Tryz.func49, rfl⟩, trivial⟩⟩, ⟨Tryz.func50, rfl⟩, ⟨⟨⟨trivial, ⟨Tryz.func51, rfl⟩, trivial⟩, ⟨Tryz.func52, rfl⟩, trivial⟩, ⟨Tryz.func53, rfl⟩, ⟨trivial, ⟨Tryz.func54, rfl⟩, trivial⟩⟩⟩, ⟨Tryz.func55, rfl⟩, ⟨⟨⟨⟨trivial, ⟨Tryz.func56, rfl⟩, trivial⟩, ⟨Tryz.func57, rfl⟩, trivial⟩, ⟨Tryz.func58, rfl⟩, ⟨trivial, ⟨Tryz.func59, rfl⟩, trivial⟩⟩, ⟨Tryz.func60, rfl⟩, ⟨⟨⟨trivial, ⟨Tryz.func61, rfl⟩, trivial⟩, ⟨Tryz.func62, rfl⟩, trivial⟩, ⟨Tryz.func63, rfl⟩, ⟨trivial, ⟨Tryz.func64, rfl⟩, trivial⟩⟩⟩⟩, ⟨Tryz.func65, rfl⟩, ⟨⟨⟨⟨⟨trivial, ⟨Tryz.func66, rfl⟩, trivial⟩, ⟨Tryz.func67, rfl⟩, trivial⟩, ⟨Tryz.func68, rfl⟩, ⟨⟨trivial, ⟨Tryz.func69, rfl⟩, trivial⟩, ⟨Tryz.func70, rfl⟩, trivial⟩⟩, ⟨Tryz.func71, rfl⟩, ⟨⟨⟨trivial, ⟨Tryz.func72, rfl⟩, trivial⟩, ⟨Tryz.func73, rfl⟩, trivial⟩, ⟨Tryz.func74, rfl⟩, ⟨trivial, ⟨Tryz.func75, rfl⟩, trivial⟩⟩⟩, ⟨Tryz.func76, rfl⟩, ⟨⟨⟨⟨trivial, ⟨Tryz.func77, rfl⟩, trivial⟩, ⟨Tryz.func78, rfl⟩, trivial⟩, ⟨Tryz.func79, rfl⟩, ⟨trivial, ⟨Tryz.func81, rfl⟩, trivial⟩⟩, ⟨Tryz.func83, rfl⟩, ⟨⟨⟨trivial, ⟨Tryz.func84, rfl⟩, trivial⟩, ⟨Tryz.func85, rfl⟩, trivial⟩, ⟨Tryz.func86, rfl⟩, ⟨trivial, ⟨Tryz.func87, rfl⟩, trivial⟩⟩⟩⟩⟩⟩, ⟨Tryz.func88, rfl⟩, ⟨⟨⟨⟨⟨⟨⟨trivial, ⟨Tryz.func89, rfl⟩, trivial⟩, ⟨Tryz.func90, rfl⟩, trivial⟩, ⟨Tryz.func91, rfl⟩, ⟨⟨trivial, ⟨Tryz.func92, rfl⟩, trivial⟩, ⟨Tryz.func93, rfl⟩, trivial⟩⟩, ⟨Tryz.func94, rfl⟩, ⟨⟨⟨trivial, ⟨Tryz.func95, rfl⟩, trivial⟩, ⟨Tryz.func96, rfl⟩, trivial⟩, ⟨Tryz.func97, rfl⟩, ⟨trivial, ⟨Tryz.func98, rfl⟩, trivial⟩⟩⟩, ⟨Tryz.func99, rfl⟩, ⟨⟨⟨⟨trivial, ⟨Tryz.func100, rfl⟩, trivial⟩, ⟨Tryz.func101, rfl⟩, trivial⟩, ⟨Tryz.func102, rfl⟩, ⟨trivial, ⟨Tryz.func103, rfl⟩, trivial⟩⟩, ⟨Tryz.func104, rfl⟩, ⟨⟨⟨trivial, ⟨Tryz.func105, rfl⟩, trivial⟩, ⟨Tryz.func106, rfl⟩, trivial⟩, ⟨Tryz.func107, rfl⟩, ⟨trivial, ⟨Tryz.func108, rfl⟩, trivial⟩⟩⟩⟩, ⟨Tryz.func109, rfl⟩, ⟨⟨⟨⟨⟨trivial, ⟨Tryz.func110, rfl⟩, trivial⟩, ⟨Tryz.func111, rfl⟩, trivial⟩, ⟨Tryz.func112, rfl⟩, ⟨⟨trivial, ⟨Tryz.func113, rfl⟩, trivial⟩, ⟨Tryz.func114, rfl⟩, trivial⟩⟩, ⟨Tryz.func115, rfl⟩, ⟨⟨⟨trivial, ⟨Tryz.func116, rfl⟩, trivial⟩, ⟨Tryz.func117, rfl⟩, trivial⟩, ⟨Tryz.func118, rfl⟩, ⟨trivial, ⟨Tryz.func119, rfl⟩, trivial⟩⟩⟩, ⟨Tryz.func120, rfl⟩, ⟨⟨⟨⟨trivial, ⟨Tryz.func121, rfl⟩, trivial⟩, ⟨Tryz.func122, rfl⟩, trivial⟩, ⟨Tryz.func123, rfl⟩, ⟨trivial, ⟨Tryz.func124, rfl⟩, trivial⟩⟩, ⟨Tryz.func125, rfl⟩, ⟨⟨⟨trivial, ⟨Tryz.func126, rfl⟩, trivial⟩, ⟨Tryz.func127, rfl⟩, trivial⟩, ⟨Tryz.func128, rfl⟩, ⟨trivial, ⟨Tryz.func129, rfl⟩, trivial⟩⟩⟩⟩⟩, ⟨Tryz.func130, rfl⟩, ⟨⟨⟨⟨⟨⟨trivial, ⟨Tryz.func131, rfl⟩, trivial⟩, ⟨Tryz.func132, rfl⟩, trivial⟩, ⟨Tryz.func133, rfl⟩, ⟨⟨trivial, ⟨Tryz.func134, rfl⟩, trivial⟩, ⟨Tryz.func135, rfl⟩, trivial⟩⟩, ⟨Tryz.func136, rfl⟩, ⟨⟨⟨trivial, ⟨Tryz.func137, rfl⟩, trivial⟩, ⟨Tryz.func138, rfl⟩, trivial⟩, ⟨Tryz.func139, rfl⟩, ⟨trivial, ⟨Tryz.func140, rfl⟩, trivial⟩⟩⟩, ⟨Tryz.func141, rfl⟩, ⟨⟨⟨⟨trivial, ⟨Tryz.func142, rfl⟩, trivial⟩, ⟨Tryz.func143, rfl⟩, trivial⟩, ⟨Tryz.func145, rfl⟩, ⟨trivial, ⟨Tryz.func146, rfl⟩, trivial⟩⟩, ⟨Tryz.func147, rfl⟩, ⟨⟨⟨trivial, ⟨Tryz.func149, rfl⟩, trivial⟩, ⟨Tryz.func150, rfl⟩, trivial⟩, ⟨Tryz.func151, rfl⟩, ⟨trivial, ⟨Tryz.func152, rfl⟩, trivial⟩⟩⟩⟩, ⟨Tryz.func153, rfl⟩, ⟨⟨⟨⟨⟨trivial, ⟨Tryz.func154, rfl⟩, trivial⟩, ⟨Tryz.func155, rfl⟩, trivial⟩, ⟨Tryz.func156, rfl⟩, ⟨trivial, ⟨Tryz.func157, rfl⟩, trivial⟩⟩, ⟨Tryz.func158, rfl⟩, ⟨⟨⟨trivial, ⟨Tryz.func159, rfl⟩, trivial⟩, ⟨Tryz.func160, rfl⟩, trivial⟩, ⟨Tryz.func161, rfl⟩, ⟨trivial, ⟨Tryz.func162, rfl⟩, trivial⟩⟩⟩, ⟨Tryz.func163, rfl⟩, ⟨⟨⟨⟨trivial, ⟨Tryz.func164, rfl⟩, trivial⟩, ⟨Tryz.func165, rfl⟩, trivial⟩, ⟨Tryz.func166, rfl⟩, ⟨trivial, ⟨Tryz.func167, rfl⟩, trivial⟩⟩, ⟨Tryz.func168, rfl⟩, ⟨⟨⟨trivial, ⟨Tryz.func169, rfl⟩, trivial⟩, ⟨Tryz.func170, rfl⟩, trivial⟩, ⟨Tryz.func172, rfl⟩, ⟨trivial, ⟨Tryz.func173, rfl⟩, trivial⟩⟩⟩⟩⟩⟩⟩, ⟨Tryz.func174, rfl⟩, ⟨⟨⟨⟨⟨⟨⟨⟨trivial, ⟨Tryz.func175, rfl⟩, trivial⟩, ⟨Tryz.func176, rfl⟩, trivial⟩, ⟨Tryz.func177, rfl⟩, ⟨⟨trivial, ⟨Tryz.func178, rfl⟩, trivial⟩, ⟨Tryz.func179, rfl⟩, trivial⟩⟩, ⟨Tryz.func180, rfl⟩, ⟨⟨⟨trivial, ⟨Tryz.func181, rfl⟩, trivial⟩, ⟨Tryz.func182, rfl⟩, trivial⟩, ⟨Tryz.func183, rfl⟩, ⟨trivial, ⟨Tryz.func184, rfl⟩, trivial⟩⟩⟩, ⟨Tryz.func185, rfl⟩, ⟨⟨⟨⟨trivial, ⟨Tryz.func186, rfl⟩, trivial⟩, ⟨Tryz.func187, rfl⟩, trivial⟩, ⟨Tryz.func188, rfl⟩, ⟨trivial, ⟨Tryz.func189, rfl⟩, trivial⟩⟩, ⟨Tryz.func190, rfl⟩, ⟨⟨⟨trivial, ⟨Tryz.func191, rfl⟩, trivial⟩, ⟨Tryz.func192, rfl⟩, trivial⟩, ⟨Tryz.func193, rfl⟩, ⟨trivial, ⟨Tryz.func194, rfl⟩, trivial⟩⟩⟩⟩, ⟨Tryz.func195, rfl⟩, ⟨⟨⟨⟨⟨trivial, ⟨Tryz.func196, rfl⟩, trivial⟩, ⟨Tryz.func197, rfl⟩, trivial⟩, ⟨Tryz.func198, rfl⟩, ⟨⟨trivial, ⟨Tryz.func199, rfl⟩, trivial⟩, ⟨Tryz.func200, rfl⟩, trivial⟩⟩, ⟨Tryz.func201, rfl⟩, ⟨⟨⟨trivial, ⟨Tryz.func202, rfl⟩, trivial⟩, ⟨Tryz.func203, rfl⟩, trivial⟩, ⟨Tryz.func205, rfl⟩, ⟨trivial, ⟨Tryz.func206, rfl⟩, trivial⟩⟩⟩, ⟨Tryz.func207, rfl⟩, ⟨⟨⟨⟨trivial, ⟨Tryz.func208, rfl⟩, trivial⟩, ⟨Tryz.func209, rfl⟩, trivial⟩, ⟨Tryz.func210, rfl⟩, ⟨trivial, ⟨Tryz.func211, rfl⟩, trivial⟩⟩, ⟨Tryz.func212, rfl⟩, ⟨⟨⟨trivial, ⟨Tryz.func213, rfl⟩, trivial⟩, ⟨Tryz.func214, rfl⟩, trivial⟩, ⟨Tryz.func215, rfl⟩, ⟨trivial, ⟨Tryz.func216, rfl⟩, trivial⟩⟩⟩⟩⟩, ⟨Tryz.func217, rfl⟩, ⟨⟨⟨⟨⟨⟨trivial, ⟨Tryz.func218, rfl⟩, trivial⟩, ⟨Tryz.func219, rfl⟩, trivial⟩, ⟨Tryz.func220, rfl⟩, ⟨⟨trivial, ⟨Tryz.func221, rfl⟩, trivial⟩, ⟨Tryz.func222, rfl⟩, trivial⟩⟩, ⟨Tryz.func223, rfl⟩, ⟨⟨⟨trivial, ⟨Tryz.func224, rfl⟩, trivial⟩, ⟨Tryz.func225, rfl⟩, trivial⟩, ⟨Tryz.func226, rfl⟩, ⟨trivial, ⟨Tryz.func227, rfl⟩, trivial⟩⟩⟩, ⟨Tryz.func228, rfl⟩, ⟨⟨⟨⟨trivial, ⟨Tryz.func229, rfl⟩, trivial⟩, ⟨Tryz.func230, rfl⟩, trivial⟩, ⟨Tryz.func231, rfl⟩, ⟨trivial, ⟨Tryz.func232, rfl⟩, trivial⟩⟩, ⟨Tryz.func233, rfl⟩, ⟨⟨⟨trivial, ⟨Tryz.func234, rfl⟩, trivial⟩, ⟨Tryz.func235, rfl⟩, trivial⟩, ⟨Tryz.func236, rfl⟩, ⟨trivial, ⟨Tryz.func237, rfl⟩, trivial⟩⟩⟩⟩, ⟨Tryz.func238, rfl⟩, ⟨⟨⟨⟨⟨trivial, ⟨Tryz.func239, rfl⟩, trivial⟩, ⟨Tryz.func240, rfl⟩, trivial⟩, ⟨Tryz.func241, rfl⟩, ⟨trivial, ⟨Tryz.func242, rfl⟩, trivial⟩⟩, ⟨Tryz.func243, rfl⟩, ⟨⟨⟨trivial, ⟨Tryz.func244, rfl⟩, trivial⟩, ⟨Tryz.func245, rfl⟩, trivial⟩, ⟨Tryz.func246, rfl⟩, ⟨trivial, ⟨Tryz.func247, rfl⟩, trivial⟩⟩⟩, ⟨Tryz.func248, rfl⟩, ⟨⟨⟨⟨trivial, ⟨Tryz.func249, rfl⟩, trivial⟩, ⟨Tryz.func250, rfl⟩, trivial⟩, ⟨Tryz.func251, rfl⟩, ⟨trivial, ⟨Tryz.func252, rfl⟩, trivial⟩⟩, ⟨Tryz.func253, rfl⟩, ⟨⟨⟨trivial, ⟨Tryz.func255, rfl⟩, trivial⟩, ⟨Tryz.func256, rfl⟩, trivial⟩, ⟨Tryz.func257, rfl⟩, ⟨trivial, ⟨Tryz.func258, rfl⟩, trivial⟩⟩⟩⟩⟩⟩, ⟨Tryz.func259, rfl⟩, ⟨⟨⟨⟨⟨⟨⟨trivial, ⟨Tryz.func260, rfl⟩, trivial⟩, ⟨Tryz.func261, rfl⟩, trivial⟩, ⟨Tryz.func262, rfl⟩, ⟨⟨trivial, ⟨Tryz.func263, rfl⟩, trivial⟩, ⟨Tryz.func264, rfl⟩, trivial⟩⟩, ⟨Tryz.func265, rfl⟩, ⟨⟨⟨trivial, ⟨Tryz.func266, rfl⟩, trivial⟩, ⟨Tryz.func267, rfl⟩, trivial⟩, ⟨Tryz.func268, rfl⟩, ⟨trivial, ⟨Tryz.func269, rfl⟩, trivial⟩⟩⟩, ⟨Tryz.func270, rfl⟩, ⟨⟨⟨⟨trivial, ⟨Tryz.func271, rfl⟩, trivial⟩, ⟨Tryz.func272, rfl⟩, trivial⟩, ⟨Tryz.func273, rfl⟩, ⟨trivial, ⟨Tryz.func274, rfl⟩, trivial⟩⟩, ⟨Tryz.func275, rfl⟩, ⟨⟨⟨trivial, ⟨Tryz.func276, rfl⟩, trivial⟩, ⟨Tryz.func277, rfl⟩, trivial⟩, ⟨Tryz.func278, rfl⟩, ⟨trivial, ⟨Tryz.func279, rfl⟩, trivial⟩⟩⟩⟩, ⟨Tryz.func280, rfl⟩, ⟨⟨⟨⟨⟨trivial, ⟨Tryz.func281, rfl⟩, trivial⟩, ⟨Tryz.func282, rfl⟩, trivial⟩, ⟨Tryz.func283, rfl⟩, ⟨⟨trivial, ⟨Tryz.func284, rfl⟩, trivial⟩, ⟨Tryz.func285, rfl⟩, trivial⟩⟩, ⟨Tryz.func286, rfl⟩, ⟨⟨⟨trivial, ⟨Tryz.func287, rfl⟩, trivial⟩, ⟨Tryz.func288, rfl⟩, trivial⟩, ⟨Tryz.func289, rfl⟩, ⟨trivial, ⟨Tryz.func290, rfl⟩, trivial⟩⟩⟩, ⟨Tryz.func291, rfl⟩, ⟨⟨⟨⟨trivial, ⟨Tryz.func293, rfl⟩, trivial⟩, ⟨Tryz.func294, rfl⟩, trivial⟩, ⟨Tryz.func295, rfl⟩, ⟨trivial, ⟨Tryz.func296, rfl⟩, trivial⟩⟩, ⟨Tryz.func297, rfl⟩, ⟨⟨⟨trivial, ⟨Tryz.func298, rfl⟩, trivial⟩, ⟨Tryz.func299, rfl⟩, trivial⟩, ⟨Tryz.func300, rfl⟩, ⟨trivial, ⟨Tryz.func301, rfl⟩, trivial⟩⟩⟩⟩⟩, ⟨Tryz.func302, rfl⟩, ⟨⟨⟨⟨⟨⟨trivial, ⟨Tryz.func303, rfl⟩, trivial⟩, ⟨Tryz.func304, rfl⟩, trivial⟩, ⟨Tryz.func305, rfl⟩, ⟨⟨trivial, ⟨Tryz.func306, rfl⟩, trivial⟩, ⟨Tryz.func307, rfl⟩, trivial⟩⟩, ⟨Tryz.func308, rfl⟩, ⟨⟨⟨trivial, ⟨Tryz.func309, rfl⟩, trivial⟩, ⟨Tryz.func310, rfl⟩, trivial⟩, ⟨Tryz.func311, rfl⟩, ⟨trivial, ⟨Tryz.func312, rfl⟩, trivial⟩⟩⟩, ⟨Tryz.func313, rfl⟩, ⟨⟨⟨⟨trivial, ⟨Tryz.func314, rfl⟩, trivial⟩, ⟨Tryz.func315, rfl⟩, trivial⟩, ⟨Tryz.func316, rfl⟩, ⟨trivial, ⟨Tryz.func317, rfl⟩, trivial⟩⟩, ⟨Tryz.func318, rfl⟩, ⟨⟨⟨trivial, ⟨Tryz.func319, rfl⟩, trivial⟩, ⟨Tryz.func320, rfl⟩, trivial⟩, ⟨Tryz.func325, rfl⟩, ⟨trivial, ⟨Tryz.func328, rfl⟩, trivial⟩⟩⟩⟩, ⟨Tryz.func329, rfl⟩, ⟨⟨⟨⟨⟨trivial, ⟨Tryz.func330, rfl⟩, trivial⟩, ⟨Tryz.func331, rfl⟩, trivial⟩, ⟨Tryz.func333, rfl⟩, ⟨trivial, ⟨Tryz.func334, rfl⟩, trivial⟩⟩, ⟨Tryz.func335, rfl⟩, ⟨⟨⟨trivial, ⟨Tryz.func336, rfl⟩, trivial⟩, ⟨Tryz.func337, rfl⟩, trivial⟩, ⟨Tryz.func338, rfl⟩, ⟨trivial, ⟨Tryz.func339, rfl⟩, trivial⟩⟩⟩, ⟨Tryz.func340, rfl⟩, ⟨⟨⟨⟨trivial, ⟨Tryz.func341, rfl⟩, trivial⟩, ⟨Tryz.func342, rfl⟩, trivial⟩, ⟨Tryz.func343, rfl⟩, ⟨trivial, ⟨Tryz.func351, rfl⟩, trivial⟩⟩, ⟨Tryz.func353, rfl⟩, ⟨⟨⟨trivial, ⟨Tryz.func354, rfl⟩, trivial⟩, ⟨Tryz.func355, rfl⟩, trivial⟩, ⟨Tryz.func356, rfl⟩, ⟨trivial, ⟨Tryz.func385, rfl⟩, trivial⟩⟩⟩⟩⟩⟩⟩⟩
theorem TNty_ok : TNty.All (fun k i => TyIs Tryz.prog k i) := ⟨⟨⟨⟨⟨⟨⟨trivial, ⟨_, Tryz.t1, rfl, Tryz.underlying1, Tryz.type1⟩, trivial⟩, ⟨_, Tryz.t2, rfl, Tryz.underlying2, Tryz.type2⟩, ⟨trivial, ⟨_, Tryz.t3, rfl, Tryz.underlying3, Tryz.type3⟩, trivial⟩⟩, ⟨_, Tryz.t4, rfl, Tryz.underlying4, Tryz.type4⟩, ⟨⟨trivial, ⟨_, Tryz.t5, rfl, Tryz.underlying5, Tryz.type5⟩, trivial⟩, ⟨_, Tryz.t9, rfl, Tryz.underlying9, Tryz.type9⟩, ⟨trivial, ⟨_, Tryz.t21, rfl, Tryz.underlying21, Tryz.type21⟩, trivial⟩⟩⟩, ⟨_, Tryz.t23, rfl, Tryz.underlying23, Tryz.type23⟩, ⟨⟨⟨trivial, ⟨_, Tryz.t24, rfl, Tryz.underlying24, Tryz.type24⟩, trivial⟩, ⟨_, Tryz.t26, rfl, Tryz.underlying26, Tryz.type26⟩, ⟨trivial, ⟨_, Tryz.t28, rfl, Tryz.underlying28, Tryz.type28⟩, trivial⟩⟩, ⟨_, Tryz.t30, rfl, Tryz.underlying30, Tryz.type30⟩, ⟨⟨trivial, ⟨_, Tryz.t31, rfl, Tryz.underlying31, Tryz.type31⟩, trivial⟩, ⟨_, Tryz.t33, rfl, Tryz.underlying33, Tryz.type33⟩, trivial⟩⟩⟩, ⟨_, Tryz.t35, rfl, Tryz.underlying35, Tryz.type35⟩, ⟨⟨⟨⟨trivial, ⟨_, Tryz.t37, rfl, Tryz.underlying37, Tryz.type37⟩, trivial⟩, ⟨_, Tryz.t38, rfl, Tryz.underlying38, Tryz.type38⟩, ⟨trivial, ⟨_, Tryz.t40, rfl, Tryz.underlying40, Tryz.type40⟩, trivial⟩⟩, ⟨_, Tryz.t42, rfl, Tryz.underlying42, Tryz.type42⟩, ⟨⟨trivial, ⟨_, Tryz.t43, rfl, Tryz.underlying43, Tryz.type43⟩, trivial⟩, ⟨_, Tryz.t44, rfl, Tryz.underlying44, Tryz.type44⟩, trivial⟩⟩, ⟨_, Tryz.t49, rfl, Tryz.underlying49, Tryz.type49⟩, ⟨⟨⟨trivial, ⟨_, Tryz.t55, rfl, Tryz.underlying55, Tryz.type55⟩, trivial⟩, ⟨_, Tryz.t57, rfl, Tryz.underlying57, Tryz.type57⟩, ⟨trivial, ⟨_, Tryz.t65, rfl, Tryz.underlying65, Tryz.type65⟩, trivial⟩⟩, ⟨_, Tryz.t66, rfl, Tryz.underlying66, Tryz.type66⟩, ⟨⟨trivial, ⟨_, Tryz.t67, rfl, Tryz.underlying67, Tryz.type67⟩, trivial⟩, ⟨_, Tryz.t77, rfl, Tryz.underlying77, Tryz.type77⟩, trivial⟩⟩⟩⟩, ⟨_, Tryz.t78, rfl, Tryz.underlying78, Tryz.type78⟩, ⟨⟨⟨⟨⟨trivial, ⟨_, Tryz.t82, rfl, Tryz.underlying82, Tryz.type82⟩, trivial⟩, ⟨_, Tryz.t91, rfl, Tryz.underlying91, Tryz.type91⟩, ⟨trivial, ⟨_, Tryz.t100, rfl, Tryz.underlying100, Tryz.type100⟩, trivial⟩⟩, ⟨_, Tryz.t102, rfl, Tryz.underlying102, Tryz.type102⟩, ⟨⟨trivial, ⟨_, Tryz.t105, rfl, Tryz.underlying105, Tryz.type105⟩, trivial⟩, ⟨_, Tryz.t110, rfl, Tryz.underlying110, Tryz.type110⟩, ⟨trivial, ⟨_, Tryz.t113, rfl, Tryz.underlying113, Tryz.type113⟩, trivial⟩⟩⟩, ⟨_, Tryz.t121, rfl, Tryz.underlying121, Tryz.type121⟩, ⟨⟨⟨trivial, ⟨_, Tryz.t131, rfl, Tryz.underlying131, Tryz.type131⟩, trivial⟩, ⟨_, Tryz.t132, rfl, Tryz.underlying132, Tryz.type132⟩, ⟨trivial, ⟨_, Tryz.t134, rfl, Tryz.underlying134, Tryz.type134⟩, trivial⟩⟩, ⟨_, Tryz.t140, rfl, Tryz.underlying140, Tryz.type140⟩, ⟨⟨trivial, ⟨_, Tryz.t153, rfl, Tryz.underlying153, Tryz.type153⟩, trivial⟩, ⟨_, Tryz.t156, rfl, Tryz.underlying156, Tryz.type156⟩, trivial⟩⟩⟩, ⟨_, Tryz.t158, rfl, Tryz.underlying158, Tryz.type158⟩, ⟨⟨⟨⟨trivial, ⟨_, Tryz.t161, rfl, Tryz.underlying161, Tryz.type161⟩, trivial⟩, ⟨_, Tryz.t168, rfl, Tryz.underlying168, Tryz.type168⟩, ⟨trivial, ⟨_, Tryz.t170, rfl, Tryz.underlying170, Tryz.type170⟩, trivial⟩⟩, ⟨_, Tryz.t174, rfl, Tryz.underlying174, Tryz.type174⟩, ⟨⟨trivial, ⟨_, Tryz.t175, rfl, Tryz.underlying175, Tryz.type175⟩, trivial⟩, ⟨_, Tryz.t176, rfl, Tryz.underlying176, Tryz.type176⟩, trivial⟩⟩, ⟨_, Tryz.t188, rfl, Tryz.underlying188, Tryz.type188⟩, ⟨⟨⟨trivial, ⟨_, Tryz.t191, rfl, Tryz.underlying191, Tryz.type191⟩, trivial⟩, ⟨_, Tryz.t201, rfl, Tryz.underlying201, Tryz.type201⟩, ⟨trivial, ⟨_, Tryz.t210, rfl, Tryz.underlying210, Tryz.type210⟩, trivial⟩⟩, ⟨_, Tryz.t212, rfl, Tryz.underlying212, Tryz.type212⟩, ⟨⟨trivial, ⟨_, Tryz.t214, rfl, Tryz.underlying214, Tryz.type214⟩, trivial⟩, ⟨_, Tryz.t218, rfl, Tryz.underlying218, Tryz.type218⟩, trivial⟩⟩⟩⟩⟩, ⟨_, Tryz.t220, rfl, Tryz.underlying220, Tryz.type220⟩, ⟨⟨⟨⟨⟨⟨trivial, ⟨_, Tryz.t221, rfl, Tryz.underlying221, Tryz.type221⟩, trivial⟩, ⟨_, Tryz.t222, rfl, Tryz.underlying222, Tryz.type222⟩, ⟨trivial, ⟨_, Tryz.t224, rfl, Tryz.underlying224, Tryz.type224⟩, trivial⟩⟩, ⟨_, Tryz.t226, rfl, Tryz.underlying226, Tryz.type226⟩, ⟨⟨trivial, ⟨_, Tryz.t228, rfl, Tryz.underlying228, Tryz.type228⟩, trivial⟩, ⟨_, Tryz.t230, rfl, Tryz.underlying230, Tryz.type230⟩, ⟨trivial, ⟨_, Tryz.t232, rfl, Tryz.underlying232, Tryz.type232⟩, trivial⟩⟩⟩, ⟨_, Tryz.t234, rfl, Tryz.underlying234, Tryz.type234⟩, ⟨⟨⟨trivial, ⟨_, Tryz.t238, rfl, Tryz.underlying238, Tryz.type238⟩, trivial⟩, ⟨_, Tryz.t256, rfl, Tryz.underlying256, Tryz.type256⟩, ⟨trivial, ⟨_, Tryz.t262, rfl, Tryz.underlying262, Tryz.type262⟩, trivial⟩⟩, ⟨_, Tryz.t268, rfl, Tryz.underlying268, Tryz.type268⟩, ⟨⟨trivial, ⟨_, Tryz.t276, rfl, Tryz.underlying276, Tryz.type276⟩, trivial⟩, ⟨_, Tryz.t282, rfl, Tryz.underlying282, Tryz.type282⟩, trivial⟩⟩⟩, ⟨_, Tryz.t284, rfl, Tryz.underlying284, Tryz.type284⟩, ⟨⟨⟨⟨trivial, ⟨_, Tryz.t287, rfl, Tryz.underlying287, Tryz.type287⟩, trivial⟩, ⟨_, Tryz.t289, rfl, Tryz.underlying289, Tryz.type289⟩, ⟨trivial, ⟨_, Tryz.t292, rfl, Tryz.underlying292, Tryz.type292⟩, trivial⟩⟩, ⟨_, Tryz.t296, rfl, Tryz.underlying296, Tryz.type296⟩, ⟨⟨trivial, ⟨_, Tryz.t306, rfl, Tryz.underlying306, Tryz.type306⟩, trivial⟩, ⟨_, Tryz.t308, rfl, Tryz.underlying308, Tryz.type308⟩, trivial⟩⟩, ⟨_, Tryz.t310, rfl, Tryz.underlying310, Tryz.type310⟩, ⟨⟨⟨trivial, ⟨_, Tryz.t312, rfl, Tryz.underlying312, Tryz.type312⟩, trivial⟩, ⟨_, Tryz.t314, rfl, Tryz.underlying314, Tryz.type314⟩, ⟨trivial, ⟨_, Tryz.t315, rfl, Tryz.underlying315, Tryz.type315⟩, trivial⟩⟩, ⟨_, Tryz.t316, rfl, Tryz.underlying316, Tryz.type316⟩, ⟨⟨trivial, ⟨_, Tryz.t317, rfl, Tryz.underlying317, Tryz.type317⟩, trivial⟩, ⟨_, Tryz.t319, rfl, Tryz.underlying319, Tryz.type319⟩, trivial⟩⟩⟩⟩, ⟨_, Tryz.t320, rfl, Tryz.underlying320, Tryz.type320⟩, ⟨⟨⟨⟨⟨trivial, ⟨_, Tryz.t323, rfl, Tryz.underlying323, Tryz.type323⟩, trivial⟩, ⟨_, Tryz.t327, rfl, Tryz.underlying327, Tryz.type327⟩, ⟨trivial, ⟨_, Tryz.t339, rfl, Tryz.underlying339, Tryz.type339⟩, trivial⟩⟩, ⟨_, Tryz.t342, rfl, Tryz.underlying342, Tryz.type342⟩, ⟨⟨trivial, ⟨_, Tryz.t343, rfl, Tryz.underlying343, Tryz.type343⟩, trivial⟩, ⟨_, Tryz.t345, rfl, Tryz.underlying345, Tryz.type345⟩, trivial⟩⟩, ⟨_, Tryz.t348, rfl, Tryz.underlying348, Tryz.type348⟩, ⟨⟨⟨trivial, ⟨_, Tryz.t351, rfl, Tryz.underlying351, Tryz.type351⟩, trivial⟩, ⟨_, Tryz.t352, rfl, Tryz.underlying352, Tryz.type352⟩, ⟨trivial, ⟨_, Tryz.t353, rfl, Tryz.underlying353, Tryz.type353⟩, trivial⟩⟩, ⟨_, Tryz.t355, rfl, Tryz.underlying355, Tryz.type355⟩, ⟨⟨trivial, ⟨_, Tryz.t357, rfl, Tryz.underlying357, Tryz.type357⟩, trivial⟩, ⟨_, Tryz.t360, rfl, Tryz.underlying360, Tryz.type360⟩, trivial⟩⟩⟩, ⟨_, Tryz.t368, rfl, Tryz.underlying368, Tryz.type368⟩, ⟨⟨⟨⟨trivial, ⟨_, Tryz.t370, rfl, Tryz.underlying370, Tryz.type370⟩, trivial⟩, ⟨_, Tryz.t371, rfl, Tryz.underlying371, Tryz.type371⟩, ⟨trivial, ⟨_, Tryz.t373, rfl, Tryz.underlying373, Tryz.type373⟩, trivial⟩⟩, ⟨_, Tryz.t377, rfl, Tryz.underlying377, Tryz.type377⟩, ⟨⟨trivial, ⟨_, Tryz.t379, rfl, Tryz.underlying379, Tryz.type379⟩, trivial⟩, ⟨_, Tryz.t383, rfl, Tryz.underlying383, Tryz.type383⟩, trivial⟩⟩, ⟨_, Tryz.t388, rfl, Tryz.underlying388, Tryz.type388⟩, ⟨⟨⟨trivial, ⟨_, Tryz.t389, rfl, Tryz.underlying389, Tryz.type389⟩, trivial⟩, ⟨_, Tryz.t392, rfl, Tryz.underlying392, Tryz.type392⟩, ⟨trivial, ⟨_, Tryz.t395, rfl, Tryz.underlying395, Tryz.type395⟩, trivial⟩⟩, ⟨_, Tryz.t396, rfl, Tryz.underlying396, Tryz.type396⟩, ⟨⟨trivial, ⟨_, Tryz.t401, rfl, Tryz.underlying401, Tryz.type401⟩, trivial⟩, ⟨_, Tryz.t402, rfl, Tryz.underlying402, Tryz.type402⟩, trivial⟩⟩⟩⟩⟩⟩

theorem TNfn_ck : TNfn.allB fnOk = true := by decide +kernel
theorem TNty_ck : TNty.allB (tyB Tryz.prog.types.size) = true := by decide +kernel
end Go.AE
end

section
/- strings.Builder's look at itself, in the seat's program. -/
namespace Go.AE
open Go.Proofs

set_option maxHeartbeats 1000000 in
set_option maxRecDepth 100000 in
theorem copy_again (b : Nat) (w : World) (h0 : w.cell? ⟨b, 0, none⟩ = some (.pointer (some ⟨b, 0, none⟩))) :
    Calls Tryz.prog 118 #[.pointer (some ⟨b, 0, none⟩)] w fun e w' => e = .returned (.tuple #[]) ∧ w' = w := by
  go_enter Tryz.func118, Tryz.ntmps118
  go_wp2
  rw [Lib.run_neq_ptr_same w _ Tryz.underlying131 (info_of Tryz.type134)]
  go_wp2
  go_end0
  exact ⟨rfl, rfl⟩

set_option maxHeartbeats 1000000 in
set_option maxRecDepth 100000 in
theorem copy_first (b : Nat) (w : World) (h0 : w.cell? ⟨b, 0, none⟩ = some (.pointer none)) (hsh : w.shape? b = some (134, 2)) (hfz : w.frozen? ⟨b, 0, none⟩ = false) :
    Calls Tryz.prog 118 #[.pointer (some ⟨b, 0, none⟩)] w fun e w' => e = .returned (.tuple #[]) ∧ w' = w.setCell ⟨b, 0, none⟩ (.pointer (some ⟨b, 0, none⟩)) := by
  go_enter Tryz.func118, Tryz.ntmps118
  go_wp2
  rw [Lib.run_to_unsafe w ⟨b, 0, none⟩ Tryz.underlying131 Tryz.underlying191 (info_of Tryz.type134) (by decide) hsh (Nat.zero_lt_succ 1)]
  simp only [Result.andThen]
  rw [Oper.upon_value]
  go_wp2
  rw [run_callFunc_extern Tryz.func144 (by kernel_rfl) (by kernel_rfl) (by kernel_rfl) (e := Extern.AbiNoEscape.same) (by kernel_rfl)]
  rw [Lib.run_noEscape]
  simp only [Result.andThen]
  rw [Oper.upon_value]
  go_wp2
  rw [Lib.run_from_unsafe w ⟨b, 0, none⟩ Tryz.underlying191 Tryz.underlying131 (info_of Tryz.type134) hsh (show liesAt Tryz.prog Tryz.prog.depth 134 (2 / Tryz.prog.cellsOf 134) 0 134 1 = true by decide +kernel)]
  simp only [Result.andThen]
  rw [Oper.upon_value]
  go_wp2
  go_end0
  exact ⟨rfl, rfl⟩

theorem copy_ok : CopyOk Tryz.prog 118 134 := by
  refine ⟨⟨Tryz.f118, Tryz.func118, by decide +kernel, by decide +kernel⟩, fun b v fz w h hf => ?_, copy_again⟩
  refine copy_first b w (by simp [World.cell?, h]) (by simp [World.shape?, h]) ?_
  have := hf 0 (by decide)
  simp only [World.frozen?, h]
  simpa using this
end Go.AE
end

section
/- sync.Once's Do, the first time, in the seat's program. -/
namespace Go.AE
open Go.Proofs

theorem disable (w : World) : (callFunc 321 #[]).run Tryz.prog w = .ok (.value (.tuple #[])) w := run_call_mark0 Tryz.func321 (by kernel_rfl) (by kernel_rfl) (by kernel_rfl) .disable (by kernel_rfl) w
theorem enable (w : World) : (callFunc 323 #[]).run Tryz.prog w = .ok (.value (.tuple #[])) w := run_call_mark0 Tryz.func323 (by kernel_rfl) (by kernel_rfl) (by kernel_rfl) .enable (by kernel_rfl) w
theorem acquire (a : Addr) (w : World) : (callFunc 324 #[.pointer (some a)]).run Tryz.prog w = .ok (.value (.tuple #[])) w := run_call_marked Tryz.func324 (by kernel_rfl) (by kernel_rfl) (by kernel_rfl) .acquire (by kernel_rfl) a w
theorem releaseMerge (a : Addr) (w : World) : (callFunc 326 #[.pointer (some a)]).run Tryz.prog w = .ok (.value (.tuple #[])) w := run_call_marked Tryz.func326 (by kernel_rfl) (by kernel_rfl) (by kernel_rfl) .releaseMerge (by kernel_rfl) a w

theorem store_deferred (a : Addr) (x : Value) (u : FrameMode) (w : World) (hc : w.cell? a = some x) (hz : w.frozen? a = false) :
    CallsD Tryz.prog 257 #[.pointer (some a), .bool true] u w fun e u' w' => u' = u ∧ (e = .returned (.tuple #[]) ∧ w' = w.drew.setCell a (.int .u32 1)) := by
  have hc' : w.drew.cell? a = some x := by go_simp
  have hz' : w.drew.frozen? a = false := by go_simp
  have hst := run_call_store (P := Tryz.prog) Tryz.func292 (by kernel_rfl) (by kernel_rfl) (by kernel_rfl) (by kernel_rfl) (k := .u32) (y := 1) hc' hz'
  go_enter_d Tryz.func257, Tryz.ntmps257
  go_wp2
  go_region_calls
  all_goals (go_end0; exact ⟨rfl, rfl⟩)

set_option maxRecDepth 100000 in
set_option maxHeartbeats 1600000 in
theorem unlock_deferred (a : Addr) (u : FrameMode) (w : World) (hc : w.cell? a = some (.int .i32 1)) (hz : w.frozen? a = false) :
    CallsD Tryz.prog 256 #[.pointer (some a)] u w fun e u' w' => u' = u ∧ (e = .returned (.tuple #[]) ∧ w' = w.setCell a (.int .i32 0)) := by
  have hd := disable
  have he := enable
  have hr := releaseMerge
  have hadd := run_call_add (P := Tryz.prog) Tryz.func327 (by kernel_rfl) (by kernel_rfl) (by kernel_rfl) .i32 (by kernel_rfl) (y := -1) (s := 0) hc hz (by simp [go_sem]; rfl)
  have hcv := run_convert_to_unsafe (P := Tryz.prog) (src := 371) (dst := 191) Tryz.underlying371 Tryz.underlying191 (by kernel_rfl) hc
  go_enter_d Tryz.func256, Tryz.ntmps256
  go_wp2
  go_end0
  go_wp2
  go_end0
  exact ⟨rfl, rfl⟩

set_option maxRecDepth 100000 in
set_option maxHeartbeats 1600000 in
theorem lock_free (a : Addr) (w : World) (hc : w.cell? a = some (.int .i32 0)) (hz : w.frozen? a = false) :
    Calls Tryz.prog 255 #[.pointer (some a)] w fun e w' => e = .returned (.tuple #[]) ∧ w' = w.setCell a (.int .i32 1) := by
  have hd := disable
  have he := enable
  have ha := acquire
  have hcas := run_call_cas_hit (P := Tryz.prog) Tryz.func322 (by kernel_rfl) (by kernel_rfl) (by kernel_rfl) .i32 (by kernel_rfl) (y := 1) hc hz
  have hc' : (w.setCell a (.int .i32 1)).cell? a = some (.int .i32 1) := World.cell?_setCell_same w a _ hc
  have hcv := run_convert_to_unsafe (P := Tryz.prog) (src := 371) (dst := 191) Tryz.underlying371 Tryz.underlying191 (by kernel_rfl) hc'
  go_enter Tryz.func255, Tryz.ntmps255
  go_wp2
  first | go_end0 | (simp only [Exit.inBlock, Exit.then]; refine bodyPost_ret (results_none rfl _ _ _) rfl ?_) | refine bodyPost_ret (results_none rfl _ _ _) rfl ?_
  go_wp2
  go_end0
  exact ⟨rfl, rfl⟩

set_option maxRecDepth 100000 in
set_option maxHeartbeats 1600000 in
theorem slow_first (b off gf : Nat) (A C : Array Value) (w : World) (R : World → Prop) (ht : HasText Tryz.prog gf)
    (h0 : w.cell? ⟨b, off, none⟩ = some (.int .u32 0)) (h1 : w.cell? ⟨b, off + 1, none⟩ = some (.int .i32 0)) (_f0 : w.frozen? ⟨b, off, none⟩ = false) (f1 : w.frozen? ⟨b, off + 1, none⟩ = false)
    (Q : Ending → World → Prop) (hcall : Calls Tryz.prog gf (A ++ C) (w.setCell ⟨b, off + 1, none⟩ (.int .i32 1)) Q)
    (hQ : ∀ e w2, Q e w2 → (∃ v, e = .returned v) ∧ w2.cell? ⟨b, off, none⟩ = some (.int .u32 0) ∧ w2.cell? ⟨b, off + 1, none⟩ = some (.int .i32 1) ∧ w2.frozen? ⟨b, off, none⟩ = false ∧ w2.frozen? ⟨b, off + 1, none⟩ = false ∧
      ∀ d, R { (w2.setCell ⟨b, off, none⟩ (.int .u32 1)).setCell ⟨b, off + 1, none⟩ (.int .i32 0) with drawn := d }) :
    Calls Tryz.prog 202 #[.pointer (some ⟨b, off, none⟩), .func (.func gf) A C] w fun e w' => e = .returned (.tuple #[]) ∧ R w' := by
  have hl := run_call_load (P := Tryz.prog) Tryz.func254 (by kernel_rfl) (by kernel_rfl) (by kernel_rfl) .u32 (by kernel_rfl) (w := w.setCell ⟨b, off + 1, none⟩ (.int .i32 1)) (a := ⟨b, off, none⟩) (x := 0) ((World.cell?_setCell_other _ ⟨b, off + 1, none⟩ ⟨b, off, none⟩ _ (by simp)).trans h0)
  have hnot : ∀ (x : Bool) (w : World), (Op.unary .not (.bool x)).run Tryz.prog w = .ok (.bool (!x)) w := fun _ _ => rfl
  have hcf : ∀ (args : Array Value) (w : World), (callFunc gf args).run Tryz.prog w = .ok (.enter gf args) w := fun args w => by
    obtain ⟨fn, t1, t2, t3⟩ := ht
    have h3' : fn.body.isNone = false := by cases hb : fn.body <;> simp_all
    simp only [callFunc, Sem.run_bind, run_program, Result.andThen_ok, t1, t2, h3', if_false, Bool.false_eq_true, Sem.run_pure]
  go_enter_defers Tryz.func202, Tryz.ntmps202
  go_wp2_with (first | (go_at_call 255; refine (lock_free ⟨b, off + 1, none⟩ _ (by go_simp) (by go_simp)).mono ?_; rintro e w' ⟨rfl, rfl⟩) | (go_at_call 201; go_in))
  refine hcall.mono ?_
  intro e w2 hq
  obtain ⟨⟨v, rfl⟩, q1, q2, q3, q4, q5⟩ := hQ e w2 hq
  clear hq hQ hcall
  simp only
  apply_assumption
  go_wp2
  -- two deferred calls, the last laid first
  refine leaves_cons (f := 257) (args := #[.pointer (some ⟨b, off, none⟩), .bool true]) (by simp) (by simp [go_sem]) ?_
  refine (store_deferred ⟨b, off, none⟩ (.int .u32 0) .returning _ q1 q3).mono ?_
  rintro e u' w'' ⟨rfl, rfl, rfl⟩
  refine leaves_cons (f := 256) (args := #[.pointer (some ⟨b, off + 1, none⟩)]) (by simp [settle]) (by simp [go_sem]) ?_
  refine (unlock_deferred ⟨b, off + 1, none⟩ _ _ ?_ (by simp [q4])).mono ?_
  · refine (World.cell?_setCell_other _ ⟨b, off, none⟩ ⟨b, off + 1, none⟩ _ (by simp)).trans ?_
    rw [World.cell?_drew]
    exact q2
  rintro e u' w'' ⟨rfl, rfl, rfl⟩
  have q6 : R ((w2.drew.setCell ⟨b, off, none⟩ (.int .u32 1)).setCell ⟨b, off + 1, none⟩ (.int .i32 0)) := q5 (w2.drawn + 1)
  clear q5
  simpa [Leaves, settle, results, Tryz.results202] using q6

set_option maxRecDepth 100000 in
set_option maxHeartbeats 1600000 in
theorem once_first (b off gf : Nat) (A C : Array Value) (w : World) (R : World → Prop) (ht : HasText Tryz.prog gf)
    (h0 : w.cell? ⟨b, off, none⟩ = some (.int .u32 0)) (h1 : w.cell? ⟨b, off + 1, none⟩ = some (.int .i32 0)) (f0 : w.frozen? ⟨b, off, none⟩ = false) (f1 : w.frozen? ⟨b, off + 1, none⟩ = false)
    (Q : Ending → World → Prop) (hcall : Calls Tryz.prog gf (A ++ C) (w.setCell ⟨b, off + 1, none⟩ (.int .i32 1)) Q)
    (hQ : ∀ e w2, Q e w2 → (∃ v, e = .returned v) ∧ w2.cell? ⟨b, off, none⟩ = some (.int .u32 0) ∧ w2.cell? ⟨b, off + 1, none⟩ = some (.int .i32 1) ∧ w2.frozen? ⟨b, off, none⟩ = false ∧ w2.frozen? ⟨b, off + 1, none⟩ = false ∧
      ∀ d, R { (w2.setCell ⟨b, off, none⟩ (.int .u32 1)).setCell ⟨b, off + 1, none⟩ (.int .i32 0) with drawn := d }) :
    Calls Tryz.prog 168 #[.pointer (some ⟨b, off, none⟩), .func (.func gf) A C] w fun e w' => e = .returned (.tuple #[]) ∧ R w' := by
  have hl := run_call_load (P := Tryz.prog) Tryz.func254 (by kernel_rfl) (by kernel_rfl) (by kernel_rfl) .u32 (by kernel_rfl) h0
  have hnot : ∀ (x : Bool) (w : World), (Op.unary .not (.bool x)).run Tryz.prog w = .ok (.bool (!x)) w := fun _ _ => rfl
  have hs := slow_first b off gf A C w R ht h0 h1 f0 f1 Q hcall hQ
  clear hcall hQ ht h1 f1
  go_enter Tryz.func168, Tryz.ntmps168
  go_wp2_with (first | (go_at_call 202; refine hs.mono ?_; rintro e w' ⟨rfl, hR⟩) | (go_at_call 201; go_in))
  go_end0
  exact ⟨rfl, hR⟩

theorem once_ok : OnceOk Tryz.prog 168 :=
  ⟨⟨Tryz.f168, Tryz.func168, by decide +kernel, by decide +kernel⟩, fun b off gf A C w R ht h0 h1 f0 f1 hc => once_first b off gf A C w R ht h0 h1 f0 f1 _ hc (fun _ _ h => h)⟩
end Go.AE
end

section
/- The seat's tables, and what its functions without a text answer. -/
namespace Go.AE
open Go.Proofs

def TNext (g : Nat) : Option Spec :=
  bif Nat.beq g 148 then some (.pure extCmp) else bif Nat.beq g 171 then some (.pure extIndexByte) else bif Nat.beq g 118 then some (.copy 134) else bif Nat.beq g 168 then some .once else none
def TNmeth (t : Nat) (n : String) : Option Nat := bif Nat.beq t 320 then (bif n == "Replace" then some 385 else none) else none
noncomputable def TNB : Base Tryz.prog := ⟨TNfn, TNty, TNext, TNmeth, fun _ => none⟩

theorem TNmeth_ok : ∀ t name g, TNmeth t name = some g → ∀ (a : Addr) (w : World), (Go.method (Tryz.prog.types.size + Made.depth) t (.pointer (some a)) name).run Tryz.prog w = .ok (g, .pointer (some a)) w := by
  intro t name g h a w
  unfold TNmeth at h
  rw [cond_eq_ite] at h
  split at h
  · rename_i ht
    have ht := Nat.eq_of_beq_eq_true ht
    subst ht
    rw [cond_eq_ite] at h
    split at h
    · rename_i hn
      have hn : name = "Replace" := by simpa using hn
      subst hn
      cases h
      have hi := info_of Tryz.type320
      have e : Tryz.prog.types.size + Made.depth = (Tryz.prog.types.size + Made.depth - 1) + 1 := by
        have : 0 < Made.depth := by decide
        omega
      rw [e]
      unfold Go.method
      simp [typeInfo, hi, Tryz.t320, Sem.run_bind, Result.andThen, follow, receiverAt, underlying, Tryz.underlying320]
      rfl
    · cases h
  · cases h

theorem TNext_ok : ∀ g s, TNext g = some s → SpecOk Tryz.prog g s := by
  intro g s h
  unfold TNext at h
  simp only [cond_eq_ite] at h
  split at h
  · rename_i e; have e := Nat.eq_of_beq_eq_true e; subst e; cases h
    exact fun args r hr => extCmp_ok Tryz.func148 (by decide +kernel) (by decide +kernel) (by kernel_rfl) (by kernel_rfl) hr
  · split at h
    · rename_i e; have e := Nat.eq_of_beq_eq_true e; subst e; cases h
      exact fun args r hr => extIndexByte_ok Tryz.func171 (by decide +kernel) (by decide +kernel) (by kernel_rfl) (by kernel_rfl) hr
    · split at h
      · rename_i e; have e := Nat.eq_of_beq_eq_true e; subst e; cases h
        exact copy_ok
      · split at h
        · rename_i e; have e := Nat.eq_of_beq_eq_true e; subst e; cases h
          exact once_ok
        · cases h

theorem TNB_ok : BaseOk TNB := ⟨by kernel_rfl, TNfn_ok, TNfn_ck, TNty_ok, TNty_ck, (fun _ _ h => by cases h), TNext_ok, TNmeth_ok⟩
end Go.AE
end
