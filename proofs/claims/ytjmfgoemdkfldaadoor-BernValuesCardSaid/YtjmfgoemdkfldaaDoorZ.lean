/- The law BernValues returns true whatever its arguments are, and its arguments read as before; lists may be as long as any that fits the memory. Conditions: those of the given statement alone. -/

